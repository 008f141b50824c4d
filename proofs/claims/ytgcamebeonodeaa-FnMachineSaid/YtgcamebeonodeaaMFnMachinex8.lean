-- Written by a program of this session out of the translation's own print. Not trusted: Lean checks it.
import Derived.Test.YtgcamebeonodeaaShr2
import Derived.Test.YtgcamebeonodeaaMFnMachinex0
import Derived.Test.YtgcamebeonodeaaMFnMachinex5
import Derived.Test.YtgcamebeonodeaaMFnMachinex6
namespace Go.Proofs.Ytgcamebeonodeaa.MFnMachine
open Go.RowKit Go.Proofs.YtgcamebeonodeaaW.PrintWords Go.Proofs.YtgcamebeonodeaaW.PrintLast Go.Proofs.YtgcamebeonodeaaW.PrintMore
attribute [local go_sem] max2_int min2_int max_two min_two max_three min_three max_four min_four   -- for this text's walks alone
set_option linter.unusedVariables false
set_option linter.unusedSimpArgs false

/-! ### impl_Asks: function 26 -/
def impl_Asks.f (a0 : Int) : Option (Bool) := (impl_InRange.f a0 1 4).bind fun t412 => (some t412)
set_option maxHeartbeats 8000000 in
set_option maxRecDepth 100000 in
theorem impl_Asks.calls (a0 : Int) (r : Bool) (w : World) (h : impl_Asks.f a0 = some r) :
  Calls Try.prog 26 #[.int .i64 a0] w fun e w' => e = .returned (.bool r) ∧ Drawn0 w w' := by
 have H : ((impl_InRange.f a0 1 4).bind fun t412 => (some t412)) = some r := h
 clear h
 replace H := Option.bind_eq_some_iff.mp H
 obtain ⟨t412, A20, H⟩ := H
 replace H : (some t412) = some r := H
 have A2 := Aside0.mk A20
 clear A20
 obtain rfl := Option.some.inj H
 go_enter Try.func26, Try.ntmps26
 go_wp2_with (first | ((with_reducible refine gate_callee (f := 69) rfl ?_); refine goesL_ (some 4) rfl rfl Try.func69 KR rfl #[.int .i64 a0, .int .i64 1, .int .i64 4] rfl AR ?_; (with_reducible refine (impl_InRange.calls a0 1 4 t412 _ A2.out).mono ?_); rintro e w' ⟨rfl, ⟨nd, rfl⟩⟩; refine ⟨_, rfl, ?_⟩))
 go_ret
 exact ⟨by first | rfl | (simp; done) | (simp [*]; done), by repeat (first | exact Drawn0.refl _ | apply Drawn0.step)⟩

/-! ### impl_WantOf: function 21 -/
def impl_WantOf.j0 : Nat → List (S121) → Bool → Int → List Int → List Int → List Int → Option (Int × Int × Int × Int)
  | 0, _, _, _, _, _, _ => none
  | k + 1, x0, x20, x414000, x414001, x414002, x414003 => if x20 = true then (some (0, 0, 0, 0)) else (if 0 ≤ x414000 then (if x414000 < (x0.length : Int) then (if ((rd_T121 x0 x414000).f0) = 1 then (if 0 ≤ ((rd_T121 x0 x414000).f1) then (if ((rd_T121 x0 x414000).f1) < (x414001.length : Int) then (some ((rd_T121 x0 x414000).f0, (rd_T121 x0 x414000).f2, (rd_T121 x0 x414000).f3, Int.tmod (rd x414001 ((rd_T121 x0 x414000).f1)) 100)) else (none)) else (none)) else (some ((rd_T121 x0 x414000).f0, 0, 0, 0))) else (none)) else (none))
def impl_WantOf.f (k : Nat) (l0 : List (S121)) (a1_0 : Int) (l1_1 : List Int) (l1_2 : List Int) (l1_3 : List Int) : Option (Int × Int × Int × Int) := (impl_canStep.f k l0 a1_0 l1_1 l1_2 l1_3).bind fun t415 => (if t415 = true then (if 0 ≤ a1_0 then (if a1_0 < (l0.length : Int) then ((impl_Asks.f ((rd_T121 l0 a1_0).f0)).bind fun t417 => (impl_WantOf.j0 k l0 (!t417) a1_0 l1_1 l1_2 l1_3)) else (none)) else (none)) else (impl_WantOf.j0 k l0 true a1_0 l1_1 l1_2 l1_3))
def impl_WantOf.T6 : Bool × List (List Nat × List Nat) := (true, [([], []), ([0], [0]), ([], []), ([2], [2]), ([], []), ([4], [4]), ([], []), ([6], [6]), ([5, 7], [5, 7]), ([8], [8]), ([9], [9]), ([1, 3, 10], [1, 3, 10]), ([0, 1, 2, 3, 4, 5, 6, 7, 8, 9, 10, 11], []), ([12, 11, 0, 1, 2, 3, 4, 5, 6, 7, 8, 9, 10, 11], [11, 12])])
def impl_WantOf.B6 : List Nat := [0, 1, 0, 4, 0, 16, 0, 64, 240, 496, 1008, 2047, 4095, 8191]
theorem impl_WantOf.tab6 : rtab .any (opsOf Try.f21 6) = impl_WantOf.T6 := by kernel_rfl
theorem impl_WantOf.bits6 : waitsOk impl_WantOf.T6.2 impl_WantOf.B6 = true := by kernel_rfl
set_option maxHeartbeats 8000000 in
set_option maxRecDepth 100000 in
theorem impl_WantOf.calls (k : Nat) (A0 : Option Addr) (c0 : Nat) (l0 : List (S121)) (a1_0 : Int) (A1_1 : Option Addr) (c1_1 : Nat) (l1_1 : List Int) (A1_2 : Option Addr) (c1_2 : Nat) (l1_2 : List Int) (A1_3 : Option Addr) (c1_3 : Nat) (l1_3 : List Int) (r1 : Int) (r2 : Int) (r3 : Int) (r4 : Int) (w : World) (hr0 : Kd.C k121 w A0 l0.length l0) (hc0 : l0.length ≤ c0) (hr1_1 : Kd.C (Kd.int .i64) w A1_1 l1_1.length l1_1) (hc1_1 : l1_1.length ≤ c1_1) (hr1_2 : Kd.C (Kd.int .i64) w A1_2 l1_2.length l1_2) (hc1_2 : l1_2.length ≤ c1_2) (hr1_3 : Kd.C (Kd.int .i64) w A1_3 l1_3.length l1_3) (hc1_3 : l1_3.length ≤ c1_3) (h : impl_WantOf.f k l0 a1_0 l1_1 l1_2 l1_3 = some (r1, r2, r3, r4)) :
  Calls Try.prog 21 #[.slice A0 l0.length c0, .agg #[.int .i64 a1_0, .slice A1_1 l1_1.length c1_1, .slice A1_2 l1_2.length c1_2, .slice A1_3 l1_3.length c1_3]] w fun e w' => e = .returned (.agg #[.int .i64 r1, .int .i64 r2, .int .i64 r3, .int .i64 r4]) ∧ Below w.heap.size w w' := by
 have hu45 := Try.underlying45
 have hu50 := Try.underlying50
 have hu121 := Try.underlying121
 have hu26 := Try.underlying26
 have HR0 := Aside0.mk hr0
 have HC0 := Aside0.mk hc0
 clear hr0 hc0
 have HR1_1 := Aside0.mk hr1_1
 have HC1_1 := Aside0.mk hc1_1
 clear hr1_1 hc1_1
 have HR1_2 := Aside0.mk hr1_2
 have HC1_2 := Aside0.mk hc1_2
 clear hr1_2 hc1_2
 have HR1_3 := Aside0.mk hr1_3
 have HC1_3 := Aside0.mk hc1_3
 clear hr1_3 hc1_3
 have HB := ak (Below.refl w.heap.size w)
 have H : ((impl_canStep.f k l0 a1_0 l1_1 l1_2 l1_3).bind fun t415 => (if t415 = true then (if 0 ≤ a1_0 then (if a1_0 < (l0.length : Int) then ((impl_Asks.f ((rd_T121 l0 a1_0).f0)).bind fun t417 => (impl_WantOf.j0 k l0 (!t417) a1_0 l1_1 l1_2 l1_3)) else (none)) else (none)) else (impl_WantOf.j0 k l0 true a1_0 l1_1 l1_2 l1_3))) = some (r1, r2, r3, r4) := h
 clear h
 have HC3 := Aside0.mk H
 clear H
 go_enter Try.func21, Try.ntmps21
 go_upto_region 1 with (first | ((with_reducible refine gate_dst (N := 3) rfl ?_); refine bx_ (N := 3) #[.int .i64 a1_0, .slice A1_1 l1_1.length c1_1, .slice A1_2 l1_2.length c1_2, .slice A1_3 l1_3.length c1_3] 45 ?_; intro gb413 hg w4 hbox hb; have BK413 := ak hbox; have GW413 := gy hg HB; have GE413 := gy hg HB; replace HB := bs HB hb; clear hb hbox hg) | ((with_reducible refine gate_dst (N := 4) rfl ?_); refine bx_ (N := 4) #[.int .i64 0, .int .i64 0, .int .i64 0, .int .i64 0] 50 ?_; intro gb414 hg w5 hbox hb; have BK414 := ak hbox; have GW414 := gy hg HB; have GE414 := gy hg HB; replace HB := bs HB hb; have NB413_414 := gm hg BK413; have NB414_413 := gn hg BK413; replace BK413 := kf BK413 hb; clear hb hbox hg))
 (try simp only [Act.put, List.setIfInBounds_toArray, List.set_cons_zero, List.set_cons_succ])
 go_cut [20] (fun v20 wc => ∃ (kq : Nat) (x20_2 : Bool), v20 = .bool x20_2 ∧ Aside0 (impl_WantOf.j0 kq l0 x20_2 a1_0 l1_1 l1_2 l1_3 = some (r1, r2, r3, r4)) ∧ Aside0 (kq ≤ k) ∧ Aside0 (wc.heap[gb413]? = some (.cells #[.int .i64 a1_0, (.slice A1_1 l1_1.length c1_1), (.slice A1_2 l1_2.length c1_2), (.slice A1_3 l1_3.length c1_3)] 45 (0, 0))) ∧ Aside0 (wc.heap[gb414]? = some (.cells #[.int .i64 0, .int .i64 0, .int .i64 0, .int .i64 0] 50 (0, 0))) ∧ Aside0 (Below w.heap.size w wc))
 case first =>
  have H := HC3.out
  clear HC3
  replace H := Option.bind_eq_some_iff.mp H
  obtain ⟨t415, A60, H⟩ := H
  replace H : (if t415 = true then (if 0 ≤ a1_0 then (if a1_0 < (l0.length : Int) then ((impl_Asks.f ((rd_T121 l0 a1_0).f0)).bind fun t417 => (impl_WantOf.j0 k l0 (!t417) a1_0 l1_1 l1_2 l1_3)) else (none)) else (none)) else (impl_WantOf.j0 k l0 true a1_0 l1_1 l1_2 l1_3)) = some (r1, r2, r3, r4) := H
  have A6 := Aside0.mk A60
  clear A60
  by_cases c7 : t415 = true
  ·subst c7
   have H1 : (if 0 ≤ a1_0 then (if a1_0 < (l0.length : Int) then ((impl_Asks.f ((rd_T121 l0 a1_0).f0)).bind fun t417 => (impl_WantOf.j0 k l0 (!t417) a1_0 l1_1 l1_2 l1_3)) else (none)) else (none)) = some (r1, r2, r3, r4) := by rw [if_pos rfl] at H; exact H
   clear H
   have H := H1
   clear H1
   by_cases c8 : 0 ≤ a1_0
   ·rw [if_pos c8] at H
    have c8b0 : decide (0 ≤ a1_0) = true := decide_eq_true c8
    clear c8
    (first | rw [c8b0] | (simp only [i64_w, i32_w]; rw [c8b0]) | skip)
    by_cases c9 : a1_0 < (l0.length : Int)
    ·rw [if_pos c9] at H
     have c9b0 : decide (a1_0 < (l0.length : Int)) = true := decide_eq_true c9
     clear c9
     replace H := Option.bind_eq_some_iff.mp H
     obtain ⟨t417, A100, H⟩ := H
     replace H : (impl_WantOf.j0 k l0 (!t417) a1_0 l1_1 l1_2 l1_3) = some (r1, r2, r3, r4) := H
     have A10 := Aside0.mk A100
     clear A100
     have H' := Aside0.mk H
     clear H
     have hnb11 := NB413_414.out
     have hnc11 := NB414_413.out
     obtain ⟨hcz12_0, hcz12_1, hcz12_2, hcz12_3, hfz12_0, hfz12_1, hfz12_2, hfz12_3⟩ := bc4 BK413
     go_wp2_with (first | ((with_reducible refine gate_callee (f := 78) rfl ?_); refine goesL_ (some 9) rfl rfl Try.func78 KR rfl #[.slice A0 l0.length c0, .agg #[.int .i64 a1_0, .slice A1_1 l1_1.length c1_1, .slice A1_2 l1_2.length c1_2, .slice A1_3 l1_3.length c1_3]] rfl AR ?_; (with_reducible refine (impl_canStep.calls k _ _ l0 a1_0 _ _ l1_1 _ _ l1_2 _ _ l1_3 true _ ?side1 ?side2 ?side3 ?side4 ?side5 ?side6 ?side7 ?side8 A6.out).mono ?_); (case side1 => exact CR (Kd.C_below HR0.out HB.out)); (case side2 => exact HC0.out); (case side3 => exact CR (Kd.C_below HR1_1.out HB.out)); (case side4 => exact HC1_1.out); (case side5 => exact CR (Kd.C_below HR1_2.out HB.out)); (case side6 => exact HC1_2.out); (case side7 => exact CR (Kd.C_below HR1_3.out HB.out)); (case side8 => exact HC1_3.out); rintro e w13 ⟨rfl, hb⟩; refine ⟨_, rfl, ?_⟩; replace BK413 := kf BK413 hb; replace BK414 := kf BK414 hb; replace HB := bs HB hb; (try clear hb); (try clear hb2); (try clear hk); (try clear hi); obtain ⟨hcz14_0, hcz14_1, hcz14_2, hcz14_3, hfz14_0, hfz14_1, hfz14_2, hfz14_3⟩ := bc4 BK413; have p416 : 0 ≤ (a1_0 : Int) := of_decide_eq_true (by first | (with_reducible assumption) | assumption); have q416 : a1_0 < (l0.length : Int) := of_decide_eq_true (by first | (with_reducible assumption) | assumption); obtain ⟨ad416, e416, hx416_0, hx416_1, hx416_2, hx416_3⟩ := at_T121 HR0.out a1_0 p416 q416; cases e416; replace hx416_0 := hx_ HB hx416_0; replace hx416_1 := hx_ HB hx416_1; replace hx416_2 := hx_ HB hx416_2; replace hx416_3 := hx_ HB hx416_3; replace p416 := eq_true p416; replace q416 := eq_true q416) | (go_at_call 26; (with_reducible refine (impl_Asks.calls ((rd_T121 l0 a1_0).f0) t417 _ A10.out).mono ?_); rintro e w' ⟨rfl, ⟨nd, rfl⟩⟩))
     go_meet
     case rel => exact ⟨_, (!t417), (by first | rfl | (simp; done) | (simp [*]; done)), H', ⟨by first | omega | exact Nat.le_refl _⟩, ⟨PK BK413⟩, ⟨PK BK414⟩, ⟨PB⟩⟩
    ·rw [if_neg c9] at H
     exact absurd H (by simp)
   ·rw [if_neg c8] at H
    exact absurd H (by simp)
  ·replace c7 := Bool.eq_false_iff.mpr c7
   subst c7
   have H1 : (impl_WantOf.j0 k l0 true a1_0 l1_1 l1_2 l1_3) = some (r1, r2, r3, r4) := by rw [if_neg (show ¬ (false = true) by decide)] at H; exact H
   clear H
   have H := H1
   clear H1
   have H' := Aside0.mk H
   clear H
   have hnb15 := NB413_414.out
   have hnc15 := NB414_413.out
   obtain ⟨hcz16_0, hcz16_1, hcz16_2, hcz16_3, hfz16_0, hfz16_1, hfz16_2, hfz16_3⟩ := bc4 BK413
   go_wp2_with (first | ((with_reducible refine gate_callee (f := 78) rfl ?_); refine goesL_ (some 9) rfl rfl Try.func78 KR rfl #[.slice A0 l0.length c0, .agg #[.int .i64 a1_0, .slice A1_1 l1_1.length c1_1, .slice A1_2 l1_2.length c1_2, .slice A1_3 l1_3.length c1_3]] rfl AR ?_; (with_reducible refine (impl_canStep.calls k _ _ l0 a1_0 _ _ l1_1 _ _ l1_2 _ _ l1_3 false _ ?side1 ?side2 ?side3 ?side4 ?side5 ?side6 ?side7 ?side8 A6.out).mono ?_); (case side1 => exact CR (Kd.C_below HR0.out HB.out)); (case side2 => exact HC0.out); (case side3 => exact CR (Kd.C_below HR1_1.out HB.out)); (case side4 => exact HC1_1.out); (case side5 => exact CR (Kd.C_below HR1_2.out HB.out)); (case side6 => exact HC1_2.out); (case side7 => exact CR (Kd.C_below HR1_3.out HB.out)); (case side8 => exact HC1_3.out); rintro e w17 ⟨rfl, hb⟩; refine ⟨_, rfl, ?_⟩; replace BK413 := kf BK413 hb; replace BK414 := kf BK414 hb; replace HB := bs HB hb; (try clear hb); (try clear hb2); (try clear hk); (try clear hi)))
   go_meet
   case rel => exact ⟨_, (true), (by first | rfl | (simp; done) | (simp [*]; done)), H', ⟨by first | omega | exact Nat.le_refl _⟩, ⟨PK BK413⟩, ⟨PK BK414⟩, ⟨PB⟩⟩
 case rest =>
  clear HC3
  (try clear c1); (try clear c2); (try clear p2); (try clear p4); (try clear q4); (try clear hx4); (try clear c7); (try clear c8); (try clear c8b0); (try clear c9); (try clear c9b0); (try clear c11); (try clear c15); (try clear hcz12_0); (try clear hcz12_1); (try clear hcz12_2); (try clear hcz12_3); (try clear hcz14_0); (try clear hcz14_1); (try clear hcz14_2); (try clear hcz14_3); (try clear hcz16_0); (try clear hcz16_1); (try clear hcz16_2); (try clear hcz16_3); (try clear hfz12_0); (try clear hfz12_1); (try clear hfz12_2); (try clear hfz12_3); (try clear hfz14_0); (try clear hfz14_1); (try clear hfz14_2); (try clear hfz14_3); (try clear hfz16_0); (try clear hfz16_1); (try clear hfz16_2); (try clear hfz16_3); (try clear hx416_0); (try clear hx416_1); (try clear hx416_2); (try clear hx416_3); (try clear p416); (try clear q416)
  obtain ⟨kq, x20_2, rfl, HA, HJ2, BK413, BK414, HB⟩ := hcut
  cases kq with
  | zero => exact absurd HA.out (by simp [impl_WantOf.j0])
  | succ kj2 =>
   have H := HA.out
   clear HA
   simp only [impl_WantOf.j0] at H
   by_cases c18 : x20_2 = true
   ·subst c18
    have H1 : (some (0, 0, 0, 0)) = some (r1, r2, r3, r4) := by rw [if_pos rfl] at H; exact H
    clear H
    have H := H1
    clear H1
    simp only [Option.some.injEq, Prod.mk.injEq] at H
    obtain ⟨rfl, rfl, rfl, rfl⟩ := H
    have hnb19 := NB414_413.out
    have hnc19 := NB413_414.out
    obtain ⟨_, _, _, _, _, _, _, _⟩ := bc4 BK414
    go_wp2
    refine bodyPost_ret (results_cell_row rfl _ _ gb414 50 #[.int .i64 0, .int .i64 0, .int .i64 0, .int .i64 0] (0, 0) _ rfl (PX BK414) Try.underlying50 rfl KR) rfl ?_
    exact ⟨RT, PB⟩
   ·replace c18 := Bool.eq_false_iff.mpr c18
    subst c18
    have H1 : (if 0 ≤ a1_0 then (if a1_0 < (l0.length : Int) then (if ((rd_T121 l0 a1_0).f0) = 1 then (if 0 ≤ ((rd_T121 l0 a1_0).f1) then (if ((rd_T121 l0 a1_0).f1) < (l1_1.length : Int) then (some ((rd_T121 l0 a1_0).f0, (rd_T121 l0 a1_0).f2, (rd_T121 l0 a1_0).f3, Int.tmod (rd l1_1 ((rd_T121 l0 a1_0).f1)) 100)) else (none)) else (none)) else (some ((rd_T121 l0 a1_0).f0, 0, 0, 0))) else (none)) else (none)) = some (r1, r2, r3, r4) := by rw [if_neg (show ¬ (false = true) by decide)] at H; exact H
    clear H
    have H := H1
    clear H1
    by_cases c21 : 0 ≤ a1_0
    ·rw [if_pos c21] at H
     have c21b0 : decide (0 ≤ a1_0) = true := decide_eq_true c21
     clear c21
     by_cases c22 : a1_0 < (l0.length : Int)
     ·rw [if_pos c22] at H
      have c22b0 : decide (a1_0 < (l0.length : Int)) = true := decide_eq_true c22
      clear c22
      by_cases c23 : ((rd_T121 l0 a1_0).f0) = 1
      ·rw [if_pos c23] at H
       have c23b0 : (((rd_T121 l0 a1_0).f0) == 1) = true := beq_iff_eq.mpr c23
       have c23b1 : (((rd_T121 l0 a1_0).f0) != 1) = false := bne_eq_false_iff_eq.mpr c23
       clear c23
       by_cases c24 : 0 ≤ ((rd_T121 l0 a1_0).f1)
       ·rw [if_pos c24] at H
        have c24b0 : decide (0 ≤ ((rd_T121 l0 a1_0).f1)) = true := decide_eq_true c24
        clear c24
        by_cases c25 : ((rd_T121 l0 a1_0).f1) < (l1_1.length : Int)
        ·rw [if_pos c25] at H
         have c25b0 : decide (((rd_T121 l0 a1_0).f1) < (l1_1.length : Int)) = true := decide_eq_true c25
         clear c25
         simp only [Option.some.injEq, Prod.mk.injEq] at H
         obtain ⟨rfl, rfl, rfl, rfl⟩ := H
         have hnb26 := NB413_414.out
         have hnc26 := NB414_413.out
         obtain ⟨hcz27_0, hcz27_1, hcz27_2, hcz27_3, hfz27_0, hfz27_1, hfz27_2, hfz27_3⟩ := bc4 BK413
         have p418 : 0 ≤ (a1_0 : Int) := of_decide_eq_true (by first | (with_reducible assumption) | assumption)
         have q418 : a1_0 < (l0.length : Int) := of_decide_eq_true (by first | (with_reducible assumption) | assumption)
         obtain ⟨ad418, e418, hx418_0, hx418_1, hx418_2, hx418_3⟩ := at_T121 HR0.out a1_0 p418 q418
         cases e418
         replace hx418_0 := hx_ HB hx418_0
         replace hx418_1 := hx_ HB hx418_1
         replace hx418_2 := hx_ HB hx418_2
         replace hx418_3 := hx_ HB hx418_3
         replace p418 := eq_true p418
         replace q418 := eq_true q418
         try go_wp2_with (first | ((with_reducible refine gate_dst (N := 5) rfl ?_); refine bx_ (N := 5) #[.int .i64 0, .int .i64 0, .int .i64 0, .int .i64 0] 121 ?_; intro gb419 hg w28 hbox hb; have BK419 := ak hbox; have GW419 := gy hg HB; have GE419 := gy hg HB; replace HB := bs HB hb; have NB413_419 := gm hg BK413; have NB419_413 := gn hg BK413; replace BK413 := kf BK413 hb; have NB414_419 := gm hg BK414; have NB419_414 := gn hg BK414; replace BK414 := kf BK414 hb; clear hb hbox hg; have hnb29 := NB419_413.out; have hnc29 := NB413_419.out; have hnb30 := NB419_414.out; have hnc30 := NB414_419.out; obtain ⟨_, _, _, _, _, _, _, _⟩ := bc4 BK419) | ((with_reducible refine gate_dst (N := 6) rfl ?_); refine bx_ (N := 6) #[.int .i64 0, .int .i64 0, .int .i64 0, .int .i64 0] 50 ?_; intro gb420 hg w32 hbox hb; have BK420 := ak hbox; have GW420 := gy hg HB; have GE420 := gy hg HB; replace HB := bs HB hb; have NB413_420 := ak ((by rw [hg]; exact Nat.ne_of_lt (blk_lt (g := gb413) (o := .cells #[.int .i64 a1_0, .slice A1_1 l1_1.length c1_1, .slice A1_2 l1_2.length c1_2, .slice A1_3 l1_3.length c1_3] 45 (0, 0)) (PF BK413)) : gb413 ≠ gb420)); have NB420_413 := ak ((by rw [hg]; exact Nat.ne_of_gt (blk_lt (g := gb413) (o := .cells #[.int .i64 a1_0, .slice A1_1 l1_1.length c1_1, .slice A1_2 l1_2.length c1_2, .slice A1_3 l1_3.length c1_3] 45 (0, 0)) (PF BK413)) : gb420 ≠ gb413)); replace BK413 := kf BK413 hb; have NB414_420 := ak ((by rw [hg]; exact Nat.ne_of_lt (blk_lt (g := gb414) (o := .cells #[.int .i64 0, .int .i64 0, .int .i64 0, .int .i64 0] 50 (0, 0)) (PF BK414)) : gb414 ≠ gb420)); have NB420_414 := ak ((by rw [hg]; exact Nat.ne_of_gt (blk_lt (g := gb414) (o := .cells #[.int .i64 0, .int .i64 0, .int .i64 0, .int .i64 0] 50 (0, 0)) (PF BK414)) : gb420 ≠ gb414)); replace BK414 := kf BK414 hb; have NB419_420 := ak ((by rw [hg]; exact Nat.ne_of_lt (blk_lt (g := gb419) (o := .cells #[.int .i64 ((rd_T121 l0 a1_0).f0), .int .i64 ((rd_T121 l0 a1_0).f1), .int .i64 ((rd_T121 l0 a1_0).f2), .int .i64 ((rd_T121 l0 a1_0).f3)] 121 (0, 0)) (PX BK419)) : gb419 ≠ gb420)); have NB420_419 := ak ((by rw [hg]; exact Nat.ne_of_gt (blk_lt (g := gb419) (o := .cells #[.int .i64 ((rd_T121 l0 a1_0).f0), .int .i64 ((rd_T121 l0 a1_0).f1), .int .i64 ((rd_T121 l0 a1_0).f2), .int .i64 ((rd_T121 l0 a1_0).f3)] 121 (0, 0)) (PX BK419)) : gb420 ≠ gb419)); replace BK419 := kp (cs' := #[.int .i64 ((rd_T121 l0 a1_0).f0), .int .i64 ((rd_T121 l0 a1_0).f1), .int .i64 ((rd_T121 l0 a1_0).f2), .int .i64 ((rd_T121 l0 a1_0).f3)]) BK419 hb; clear hb hbox hg; have hnb33 := NB420_413.out; have hnc33 := NB413_420.out; have hnb34 := NB420_414.out; have hnc34 := NB414_420.out; have hnb35 := NB420_419.out; have hnc35 := NB419_420.out; obtain ⟨_, _, _, _, _, _, _, _⟩ := bc4 BK420; obtain ⟨_, _, _, _, _, _, _, _⟩ := bc4 BK419))
         generalize hW_ : ((((w32.setCell ⟨gb420, 0, none⟩ (.int .i64 ((rd_T121 l0 a1_0).f0))).setCell ⟨gb420, 1, none⟩ (.int .i64 0)).setCell ⟨gb420, 2, none⟩ (.int .i64 0)).setCell ⟨gb420, 3, none⟩ (.int .i64 0)) = w38
         replace BK413 := BE hW_ BK413
         replace BK414 := BE hW_ BK414
         replace BK419 := BE hW_ BK419
         replace BK420 : Aside0 (w38.heap[gb420]? = some (.cells #[.int .i64 ((rd_T121 l0 a1_0).f0), .int .i64 0, .int .i64 0, .int .i64 0] 50 (0, 0))) := BP hW_ BK420
         replace HB := BL hW_ HB
         (try clear hW_)
         replace BK413 := ak (blk_drew BK413.out)
         replace BK414 := ak (blk_drew BK414.out)
         replace BK419 := ak (blk_drew BK419.out)
         replace BK420 := ak (blk_drew BK420.out)
         replace HB := ak (below_drew1 HB.out)
         have p421 : 0 ≤ (((rd_T121 l0 a1_0).f1) : Int) := of_decide_eq_true (by first | (with_reducible assumption) | assumption)
         have q421 : ((rd_T121 l0 a1_0).f1) < (l1_1.length : Int) := of_decide_eq_true (by first | (with_reducible assumption) | assumption)
         obtain ⟨ad421, e421, hx421_0⟩ := Kd.at_int HR1_1.out ((rd_T121 l0 a1_0).f1) p421 q421
         have hw421_0 := hx421_0
         cases e421
         replace hx421_0 := hx_ HB hx421_0
         replace p421 := eq_true p421
         replace q421 := eq_true q421
         refine start_ (n := 14) (S := fun w' => w'.cell? ⟨gb419, 0, none⟩ = some (.int .i64 ((rd_T121 l0 a1_0).f0)) ∧ w'.cell? ⟨gb419, 1, none⟩ = some (.int .i64 ((rd_T121 l0 a1_0).f1)) ∧ w'.cell? ⟨gb419, 2, none⟩ = some (.int .i64 ((rd_T121 l0 a1_0).f2)) ∧ w'.cell? ⟨gb419, 3, none⟩ = some (.int .i64 ((rd_T121 l0 a1_0).f3)) ∧ w'.cell? ⟨gb413, 0, none⟩ = some (.int .i64 a1_0) ∧ w'.cell? ⟨gb413, 1, none⟩ = some (.slice (some ad421) l1_1.length c1_1) ∧ w'.cell? ⟨gb413, 2, none⟩ = some (.slice A1_2 l1_2.length c1_2) ∧ w'.cell? ⟨gb413, 3, none⟩ = some (.slice A1_3 l1_3.length c1_3) ∧ w'.cell? (ad421.add (((rd_T121 l0 a1_0).f1)).toNat) = some (.int .i64 (rd l1_1 ((rd_T121 l0 a1_0).f1)))) (ds := []) #[false, false, false, false, false, false, false, false, false, false, false, false, false, false] KR rfl rfl ⟨(blk_cell BK419.out 0).trans rfl, (blk_cell BK419.out 1).trans rfl, (blk_cell BK419.out 2).trans rfl, (blk_cell BK419.out 3).trans rfl, (blk_cell BK413.out 0).trans rfl, (blk_cell BK413.out 1).trans rfl, (blk_cell BK413.out 2).trans rfl, (blk_cell BK413.out 3).trans rfl, ((HB.out.cell (World.block_lt_of_cell? w _ hw421_0)).trans hw421_0)⟩ (fun hHeld => ?_); refine with_tabW impl_WantOf.tab6 impl_WantOf.bits6 (fun HT_ HW_ => ?_)
         generalize w38.drew = w39 at BK413 BK414 BK419 BK420 HB hx421_0 hHeld ⊢
         refine pu_ (i := 0) (N := some 33) #[true, false, false, false, false, false, false, false, false, false, false, false, false, false] HT_ ?_
         refine pu_ (i := 2) (N := some 35) #[true, false, true, false, false, false, false, false, false, false, false, false, false, false] HT_ ?_
         refine pu_ (i := 4) (N := some 37) #[true, false, true, false, true, false, false, false, false, false, false, false, false, false] HT_ ?_
         refine pu_ (i := 6) (N := some 39) #[true, false, true, false, true, false, true, false, false, false, false, false, false, false] HT_ ?_
         refine tk_ (i := 1) (N := some 34) #[true, true, true, false, true, false, true, false, false, false, false, false, false, false] rfl rfl HT_ HW_ hHeld ?_
         refine take_ (i := 3) (N := some 36) (v := ?_) (a' := ?_) #[true, true, true, true, true, false, true, false, false, false, false, false, false, false] rfl rfl (take_ofW HT_.out HW_.out KR) (fun _ _ _ h => h) (Or.inl ⟨by rfl, ?_⟩) hHeld ?_ ?_
         rotate_left
         ·rintro w' ⟨s0, s1, s2, s3, s4, s5, s6, s7, s8⟩
          go_simp
          with_reducible rfl
         rotate_left
         ·simp only [Act.put, List.setIfInBounds_toArray, List.set_cons_zero, List.set_cons_succ, i64_w, i32_w]
          rfl
         refine tk_ (i := 5) (N := some 38) #[true, true, true, true, true, true, true, false, false, false, false, false, false, false] rfl rfl HT_ HW_ hHeld ?_
         refine take_ (i := 7) (N := some 40) (v := ?_) (a' := ?_) #[true, true, true, true, true, true, true, true, false, false, false, false, false, false] rfl rfl (take_ofW HT_.out HW_.out KR) (fun _ _ _ h => h) (Or.inl ⟨by rfl, ?_⟩) hHeld ?_ ?_
         rotate_left
         ·rintro w' ⟨s0, s1, s2, s3, s4, s5, s6, s7, s8⟩
          go_simp
          with_reducible rfl
         rotate_left
         ·simp only [Act.put, List.setIfInBounds_toArray, List.set_cons_zero, List.set_cons_succ, i64_w, i32_w]
          rfl
         refine pu_ (i := 8) (N := some 41) #[true, true, true, true, true, true, true, true, true, false, false, false, false, false] HT_ ?_
         refine tk_ (i := 9) (N := some 42) #[true, true, true, true, true, true, true, true, true, true, false, false, false, false] rfl rfl HT_ HW_ hHeld ?_
         refine pu_ (i := 10) (N := some 43) #[true, true, true, true, true, true, true, true, true, true, true, false, false, false] HT_ ?_
         refine pu_ (i := 11) (N := some 44) #[true, true, true, true, true, true, true, true, true, true, true, true, false, false] HT_ ?_
         refine pu_ (i := 12) (N := some 45) #[true, true, true, true, true, true, true, true, true, true, true, true, true, false] HT_ ?_
         refine one_ (i := 13) (N := none) #[true, true, true, true, true, true, true, true, true, true, true, true, true, true] rfl rfl (one_of HT_.out KR) (by decide) (fun K hK => ?_)
         have hs40 : w39.cell? ⟨gb420, 1, none⟩ = some (.int .i64 0) := (blk_cell BK420.out 1).trans rfl
         have hfs40 := blk_frozen BK420.out 1
         have hns40_0 := NB413_420.out
         have hns40_1 := NB414_420.out
         have hns40_2 := NB419_420.out
         have hms40_0 := NB420_413.out
         have hms40_1 := NB420_414.out
         have hms40_2 := NB420_419.out
         have hs41 : w39.cell? ⟨gb420, 2, none⟩ = some (.int .i64 0) := (blk_cell BK420.out 2).trans rfl
         have hfs41 := blk_frozen BK420.out 2
         have hns41_0 := NB413_420.out
         have hns41_1 := NB414_420.out
         have hns41_2 := NB419_420.out
         have hms41_0 := NB420_413.out
         have hms41_1 := NB420_414.out
         have hms41_2 := NB420_419.out
         have hs42 : w39.cell? ⟨gb420, 3, none⟩ = some (.int .i64 0) := (blk_cell BK420.out 3).trans rfl
         have hfs42 := blk_frozen BK420.out 3
         have hns42_0 := NB413_420.out
         have hns42_1 := NB414_420.out
         have hns42_2 := NB419_420.out
         have hms42_0 := NB420_413.out
         have hms42_1 := NB420_414.out
         have hms42_2 := NB420_419.out
         refine skip_ (w1 := ?_) (by rfl) rfl ?_ ?_
         rotate_left
         ·go_simp
          rfl
         refine hK.out _ _ ⟨((cell_far (p := ⟨gb420, _, none⟩) NB419_420.out _).trans (((cell_far (p := ⟨gb420, _, none⟩) NB419_420.out _).trans (((cell_far (p := ⟨gb420, _, none⟩) NB419_420.out _).trans (hHeld.1)))))), ((cell_far (p := ⟨gb420, _, none⟩) NB419_420.out _).trans (((cell_far (p := ⟨gb420, _, none⟩) NB419_420.out _).trans (((cell_far (p := ⟨gb420, _, none⟩) NB419_420.out _).trans (hHeld.2.1)))))), ((cell_far (p := ⟨gb420, _, none⟩) NB419_420.out _).trans (((cell_far (p := ⟨gb420, _, none⟩) NB419_420.out _).trans (((cell_far (p := ⟨gb420, _, none⟩) NB419_420.out _).trans (hHeld.2.2.1)))))), ((cell_far (p := ⟨gb420, _, none⟩) NB419_420.out _).trans (((cell_far (p := ⟨gb420, _, none⟩) NB419_420.out _).trans (((cell_far (p := ⟨gb420, _, none⟩) NB419_420.out _).trans (hHeld.2.2.2.1)))))), ((cell_far (p := ⟨gb420, _, none⟩) NB413_420.out _).trans (((cell_far (p := ⟨gb420, _, none⟩) NB413_420.out _).trans (((cell_far (p := ⟨gb420, _, none⟩) NB413_420.out _).trans (hHeld.2.2.2.2.1)))))), ((cell_far (p := ⟨gb420, _, none⟩) NB413_420.out _).trans (((cell_far (p := ⟨gb420, _, none⟩) NB413_420.out _).trans (((cell_far (p := ⟨gb420, _, none⟩) NB413_420.out _).trans (hHeld.2.2.2.2.2.1)))))), ((cell_far (p := ⟨gb420, _, none⟩) NB413_420.out _).trans (((cell_far (p := ⟨gb420, _, none⟩) NB413_420.out _).trans (((cell_far (p := ⟨gb420, _, none⟩) NB413_420.out _).trans (hHeld.2.2.2.2.2.2.1)))))), ((cell_far (p := ⟨gb420, _, none⟩) NB413_420.out _).trans (((cell_far (p := ⟨gb420, _, none⟩) NB413_420.out _).trans (((cell_far (p := ⟨gb420, _, none⟩) NB413_420.out _).trans (hHeld.2.2.2.2.2.2.2.1)))))), ((cell_far (p := ⟨gb420, _, none⟩) (by first | exact Nat.ne_of_lt (Nat.lt_of_lt_of_le (by have := World.block_lt_of_cell? _ _ hw421_0; first | rwa [add_block] at this | exact this) GW420.out) | (rw [add_block]; exact Nat.ne_of_lt (Nat.lt_of_lt_of_le (by have := World.block_lt_of_cell? _ _ hw421_0; first | rwa [add_block] at this | exact this) GW420.out)) | (show (Addr.add _ _).block ≠ _; rw [add_block]; exact Nat.ne_of_lt (Nat.lt_of_lt_of_le (by have := World.block_lt_of_cell? _ _ hw421_0; first | rwa [add_block] at this | exact this) GW420.out)) | (dsimp only; exact Nat.ne_of_lt (Nat.lt_of_lt_of_le (by have := World.block_lt_of_cell? _ _ hw421_0; first | rwa [add_block] at this | exact this) GW420.out))) _).trans (((cell_far (p := ⟨gb420, _, none⟩) (by first | exact Nat.ne_of_lt (Nat.lt_of_lt_of_le (by have := World.block_lt_of_cell? _ _ hw421_0; first | rwa [add_block] at this | exact this) GW420.out) | (rw [add_block]; exact Nat.ne_of_lt (Nat.lt_of_lt_of_le (by have := World.block_lt_of_cell? _ _ hw421_0; first | rwa [add_block] at this | exact this) GW420.out)) | (show (Addr.add _ _).block ≠ _; rw [add_block]; exact Nat.ne_of_lt (Nat.lt_of_lt_of_le (by have := World.block_lt_of_cell? _ _ hw421_0; first | rwa [add_block] at this | exact this) GW420.out)) | (dsimp only; exact Nat.ne_of_lt (Nat.lt_of_lt_of_le (by have := World.block_lt_of_cell? _ _ hw421_0; first | rwa [add_block] at this | exact this) GW420.out))) _).trans (((cell_far (p := ⟨gb420, _, none⟩) (by first | exact Nat.ne_of_lt (Nat.lt_of_lt_of_le (by have := World.block_lt_of_cell? _ _ hw421_0; first | rwa [add_block] at this | exact this) GW420.out) | (rw [add_block]; exact Nat.ne_of_lt (Nat.lt_of_lt_of_le (by have := World.block_lt_of_cell? _ _ hw421_0; first | rwa [add_block] at this | exact this) GW420.out)) | (show (Addr.add _ _).block ≠ _; rw [add_block]; exact Nat.ne_of_lt (Nat.lt_of_lt_of_le (by have := World.block_lt_of_cell? _ _ hw421_0; first | rwa [add_block] at this | exact this) GW420.out)) | (dsimp only; exact Nat.ne_of_lt (Nat.lt_of_lt_of_le (by have := World.block_lt_of_cell? _ _ hw421_0; first | rwa [add_block] at this | exact this) GW420.out))) _).trans (hHeld.2.2.2.2.2.2.2.2))))))⟩ (fun hHeld => ?_)
         clear hK K
         refine done_ (done_of HT_.out KR) ?_
         obtain ⟨_, _, _, _, _, _, _, _⟩ := bc4 BK420
         obtain ⟨_, _, _, _, _, _, _, _⟩ := bc4 BK414
         try go_wp2
         refine bodyPost_ret (results_cell_row rfl _ _ gb414 50 #[.int .i64 ((rd_T121 l0 a1_0).f0), .int .i64 ((rd_T121 l0 a1_0).f2), .int .i64 ((rd_T121 l0 a1_0).f3), .int .i64 (Int.tmod (rd l1_1 ((rd_T121 l0 a1_0).f1)) 100)] (0, 0) _ rfl (PX BK414) Try.underlying50 rfl KR) rfl ?_
         exact ⟨RT, PB⟩
        ·rw [if_neg c25] at H
         exact absurd H (by simp)
       ·rw [if_neg c24] at H
        exact absurd H (by simp)
      ·rw [if_neg c23] at H
       have c23b0 : (((rd_T121 l0 a1_0).f0) == 1) = false := beq_eq_false_iff_ne.mpr c23
       have c23b1 : (((rd_T121 l0 a1_0).f0) != 1) = true := bne_iff_ne.mpr c23
       simp only [Option.some.injEq, Prod.mk.injEq] at H
       obtain ⟨rfl, rfl, rfl, rfl⟩ := H
       have hnb45 := NB413_414.out
       have hnc45 := NB414_413.out
       obtain ⟨_, _, _, _, _, _, _, _⟩ := bc4 BK413
       have p418 : 0 ≤ (a1_0 : Int) := of_decide_eq_true (by first | (with_reducible assumption) | assumption)
       have q418 : a1_0 < (l0.length : Int) := of_decide_eq_true (by first | (with_reducible assumption) | assumption)
       obtain ⟨ad418, e418, hx418_0, hx418_1, hx418_2, hx418_3⟩ := at_T121 HR0.out a1_0 p418 q418
       cases e418
       replace hx418_0 := hx_ HB hx418_0
       replace hx418_1 := hx_ HB hx418_1
       replace hx418_2 := hx_ HB hx418_2
       replace hx418_3 := hx_ HB hx418_3
       replace p418 := eq_true p418
       replace q418 := eq_true q418
       go_wp2_with (first | ((with_reducible refine gate_dst (N := 5) rfl ?_); refine bx_ (N := 5) #[.int .i64 0, .int .i64 0, .int .i64 0, .int .i64 0] 121 ?_; intro gb419 hg w47 hbox hb; have BK419 := ak hbox; have GW419 := gy hg HB; have GE419 := gy hg HB; replace HB := bs HB hb; have NB413_419 := gm hg BK413; have NB419_413 := gn hg BK413; replace BK413 := kf BK413 hb; have NB414_419 := gm hg BK414; have NB419_414 := gn hg BK414; replace BK414 := kf BK414 hb; clear hb hbox hg; have hnb48 := NB419_413.out; have hnc48 := NB413_419.out; have hnb49 := NB419_414.out; have hnc49 := NB414_419.out; obtain ⟨_, _, _, _, _, _, _, _⟩ := bc4 BK419) | ((with_reducible refine gate_dst (N := 6) rfl ?_); refine bx_ (N := 6) #[.int .i64 0, .int .i64 0, .int .i64 0, .int .i64 0] 50 ?_; intro gb420 hg w51 hbox hb; have BK420 := ak hbox; have GW420 := gy hg HB; have GE420 := gy hg HB; replace HB := bs HB hb; have NB413_420 := ak ((by rw [hg]; exact Nat.ne_of_lt (blk_lt (g := gb413) (o := .cells #[.int .i64 a1_0, .slice A1_1 l1_1.length c1_1, .slice A1_2 l1_2.length c1_2, .slice A1_3 l1_3.length c1_3] 45 (0, 0)) (PF BK413)) : gb413 ≠ gb420)); have NB420_413 := ak ((by rw [hg]; exact Nat.ne_of_gt (blk_lt (g := gb413) (o := .cells #[.int .i64 a1_0, .slice A1_1 l1_1.length c1_1, .slice A1_2 l1_2.length c1_2, .slice A1_3 l1_3.length c1_3] 45 (0, 0)) (PF BK413)) : gb420 ≠ gb413)); replace BK413 := kf BK413 hb; have NB414_420 := ak ((by rw [hg]; exact Nat.ne_of_lt (blk_lt (g := gb414) (o := .cells #[.int .i64 0, .int .i64 0, .int .i64 0, .int .i64 0] 50 (0, 0)) (PF BK414)) : gb414 ≠ gb420)); have NB420_414 := ak ((by rw [hg]; exact Nat.ne_of_gt (blk_lt (g := gb414) (o := .cells #[.int .i64 0, .int .i64 0, .int .i64 0, .int .i64 0] 50 (0, 0)) (PF BK414)) : gb420 ≠ gb414)); replace BK414 := kf BK414 hb; have NB419_420 := ak ((by rw [hg]; exact Nat.ne_of_lt (blk_lt (g := gb419) (o := .cells #[.int .i64 ((rd_T121 l0 a1_0).f0), .int .i64 ((rd_T121 l0 a1_0).f1), .int .i64 ((rd_T121 l0 a1_0).f2), .int .i64 ((rd_T121 l0 a1_0).f3)] 121 (0, 0)) (PX BK419)) : gb419 ≠ gb420)); have NB420_419 := ak ((by rw [hg]; exact Nat.ne_of_gt (blk_lt (g := gb419) (o := .cells #[.int .i64 ((rd_T121 l0 a1_0).f0), .int .i64 ((rd_T121 l0 a1_0).f1), .int .i64 ((rd_T121 l0 a1_0).f2), .int .i64 ((rd_T121 l0 a1_0).f3)] 121 (0, 0)) (PX BK419)) : gb420 ≠ gb419)); replace BK419 := kp (cs' := #[.int .i64 ((rd_T121 l0 a1_0).f0), .int .i64 ((rd_T121 l0 a1_0).f1), .int .i64 ((rd_T121 l0 a1_0).f2), .int .i64 ((rd_T121 l0 a1_0).f3)]) BK419 hb; clear hb hbox hg; have hnb52 := NB420_413.out; have hnc52 := NB413_420.out; have hnb53 := NB420_414.out; have hnc53 := NB414_420.out; have hnb54 := NB420_419.out; have hnc54 := NB419_420.out; obtain ⟨_, _, _, _, _, _, _, _⟩ := bc4 BK420; obtain ⟨_, _, _, _, _, _, _, _⟩ := bc4 BK419; obtain ⟨_, _, _, _, _, _, _, _⟩ := bc4 BK414))
       refine bodyPost_ret (results_cell_row rfl _ _ gb414 50 #[.int .i64 ((rd_T121 l0 a1_0).f0), .int .i64 0, .int .i64 0, .int .i64 0] (0, 0) _ rfl (PX BK414) Try.underlying50 rfl KR) rfl ?_
       exact ⟨RT, PB⟩
     ·rw [if_neg c22] at H
      exact absurd H (by simp)
    ·rw [if_neg c21] at H
     exact absurd H (by simp)

/-! ### impl_IsDone: function 24 -/
def impl_IsDone.f (l0 : List (S121)) (a1_0 : Int) (l1_1 : List Int) (l1_2 : List Int) (l1_3 : List Int) : Option (Bool) := some (decide (a1_0 ≥ (l0.length : Int)))
set_option maxHeartbeats 8000000 in
set_option maxRecDepth 100000 in
theorem impl_IsDone.calls (A0 : Option Addr) (c0 : Nat) (l0 : List (S121)) (a1_0 : Int) (A1_1 : Option Addr) (c1_1 : Nat) (l1_1 : List Int) (A1_2 : Option Addr) (c1_2 : Nat) (l1_2 : List Int) (A1_3 : Option Addr) (c1_3 : Nat) (l1_3 : List Int) (r : Bool) (w : World) (hr0 : Kd.C k121 w A0 l0.length l0) (hc0 : l0.length ≤ c0) (hr1_1 : Kd.C (Kd.int .i64) w A1_1 l1_1.length l1_1) (hc1_1 : l1_1.length ≤ c1_1) (hr1_2 : Kd.C (Kd.int .i64) w A1_2 l1_2.length l1_2) (hc1_2 : l1_2.length ≤ c1_2) (hr1_3 : Kd.C (Kd.int .i64) w A1_3 l1_3.length l1_3) (hc1_3 : l1_3.length ≤ c1_3) (h : impl_IsDone.f l0 a1_0 l1_1 l1_2 l1_3 = some r) :
  Calls Try.prog 24 #[.slice A0 l0.length c0, .agg #[.int .i64 a1_0, .slice A1_1 l1_1.length c1_1, .slice A1_2 l1_2.length c1_2, .slice A1_3 l1_3.length c1_3]] w fun e w' => e = .returned (.bool r) ∧ Below w.heap.size w w' := by
 have hu45 := Try.underlying45
 have HR0 := Aside0.mk hr0
 have HC0 := Aside0.mk hc0
 clear hr0 hc0
 have HR1_1 := Aside0.mk hr1_1
 have HC1_1 := Aside0.mk hc1_1
 clear hr1_1 hc1_1
 have HR1_2 := Aside0.mk hr1_2
 have HC1_2 := Aside0.mk hc1_2
 clear hr1_2 hc1_2
 have HR1_3 := Aside0.mk hr1_3
 have HC1_3 := Aside0.mk hc1_3
 clear hr1_3 hc1_3
 have HB := ak (Below.refl w.heap.size w)
 have H : (some (decide (a1_0 ≥ (l0.length : Int)))) = some r := h
 clear h
 obtain rfl := Option.some.inj H
 go_enter Try.func24, Try.ntmps24
 go_wp2_with (first | ((with_reducible refine gate_dst (N := 3) rfl ?_); refine bx_ (N := 3) #[.int .i64 a1_0, .slice A1_1 l1_1.length c1_1, .slice A1_2 l1_2.length c1_2, .slice A1_3 l1_3.length c1_3] 45 ?_; intro gb422 hg w3 hbox hb; have BK422 := ak hbox; have GW422 := gy hg HB; have GE422 := gy hg HB; replace HB := bs HB hb; clear hb hbox hg; obtain ⟨_, _, _, _, _, _, _, _⟩ := bc4 BK422))
 go_ret
 exact ⟨RT, PB⟩

/-! ### slices_Equal_int_int: function 83 -/
def slices_Equal_int_int.l0 : Nat → List Int → List Int → Int → Int → Option (Bool)
  | 0, _, _, _, _ => none
  | k + 1, x0, x1, x12, x13 => if x13 < x12 then (if 0 ≤ x13 then (if x13 < (x0.length : Int) then (if x13 < (x1.length : Int) then (if (rd x0 x13) = (rd x1 x13) then (slices_Equal_int_int.l0 k x0 x1 x12 (wrap64 (x13 + 1))) else (some false)) else (none)) else (none)) else (none)) else (some true)
def slices_Equal_int_int.f (k : Nat) (l0 : List Int) (l1 : List Int) : Option (Bool) := if (l0.length : Int) = (l1.length : Int) then (slices_Equal_int_int.l0 k l0 l1 (l0.length : Int) 0) else (some false)
set_option maxHeartbeats 8000000 in
set_option maxRecDepth 100000 in
theorem slices_Equal_int_int.calls (k : Nat) (A0 : Option Addr) (c0 : Nat) (l0 : List Int) (A1 : Option Addr) (c1 : Nat) (l1 : List Int) (r : Bool) (w : World) (hr0 : Kd.C (Kd.int .i64) w A0 l0.length l0) (hc0 : l0.length ≤ c0) (hr1 : Kd.C (Kd.int .i64) w A1 l1.length l1) (hc1 : l1.length ≤ c1) (h : slices_Equal_int_int.f k l0 l1 = some r) :
  Calls Try.prog 83 #[.slice A0 l0.length c0, .slice A1 l1.length c1] w fun e w' => e = .returned (.bool r) ∧ Drawn0 w w' := by
 have HR0 := Aside0.mk hr0
 have HC0 := Aside0.mk hc0
 clear hr0 hc0
 have HR1 := Aside0.mk hr1
 have HC1 := Aside0.mk hc1
 clear hr1 hc1
 have H : (if (l0.length : Int) = (l1.length : Int) then (slices_Equal_int_int.l0 k l0 l1 (l0.length : Int) 0) else (some false)) = some r := h
 clear h
 by_cases c3 : (l0.length : Int) = (l1.length : Int)
 ·rw [if_pos c3] at H
  have c3b0 : ((l0.length : Int) == (l1.length : Int)) = true := beq_iff_eq.mpr c3
  have c3b1 : ((l0.length : Int) != (l1.length : Int)) = false := bne_eq_false_iff_eq.mpr c3
  have c3b2 : (l0.length == l1.length) = true := by first | simpa using c3 | (simp at c3 ⊢; omega)
  clear c3
  have H' := Aside0.mk H
  clear H
  go_enter Try.func83, Try.ntmps83
  go_wp2
  repeat (go_quiet (fail); try go_wp2)
  go_loopg [13] k (fun kq v13 w' => ∃ (x13_1 : Int), v13 = .int .i64 x13_1 ∧ Aside0 (slices_Equal_int_int.l0 kq l0 l1 (l0.length : Int) x13_1 = some r) ∧ Aside0 (kq ≤ k) ∧ Drawn0 w w')
  case atStart => exact ⟨(0), (by first | rfl | (simp; done) | (simp [*]; done)), H', ⟨Nat.le_refl _⟩, by repeat (first | exact Drawn0.refl _ | apply Drawn0.step)⟩
  case round =>
   clear H'
   (try clear c1); (try clear p2); (try clear c3); (try clear c3b0); (try clear c3b1); (try clear c3b2)
   obtain ⟨x13_1, rfl, HA, HK1, ⟨m1, rfl⟩⟩ := hrel
   cases gk with
   | zero => exact absurd HA.out (by simp [slices_Equal_int_int.l0])
   | succ k1 =>
    have H := HA.out
    clear HA
    simp only [slices_Equal_int_int.l0] at H
    by_cases c4 : x13_1 < (l0.length : Int)
    ·rw [if_pos c4] at H
     have c4b0 : decide (x13_1 < (l0.length : Int)) = true := decide_eq_true c4
     clear c4
     by_cases c5 : 0 ≤ x13_1
     ·rw [if_pos c5] at H
      have c5b0 : decide (0 ≤ x13_1) = true := decide_eq_true c5
      clear c5
      by_cases c6 : x13_1 < (l0.length : Int)
      ·rw [if_pos c6] at H
       have c6b0 : decide (x13_1 < (l0.length : Int)) = true := decide_eq_true c6
       clear c6
       by_cases c7 : x13_1 < (l1.length : Int)
       ·rw [if_pos c7] at H
        have c7b0 : decide (x13_1 < (l1.length : Int)) = true := decide_eq_true c7
        clear c7
        by_cases c8 : (rd l0 x13_1) = (rd l1 x13_1)
        ·rw [if_pos c8] at H
         have c8b0 : ((rd l0 x13_1) == (rd l1 x13_1)) = true := beq_iff_eq.mpr c8
         have c8b1 : ((rd l0 x13_1) != (rd l1 x13_1)) = false := bne_eq_false_iff_eq.mpr c8
         clear c8
         have H' := Aside0.mk H
         clear H
         have p423 : 0 ≤ (x13_1 : Int) := of_decide_eq_true (by first | (with_reducible assumption) | assumption)
         have q423 : x13_1 < (l0.length : Int) := of_decide_eq_true (by first | (with_reducible assumption) | assumption)
         obtain ⟨ad423, e423, hx423_0⟩ := Kd.at_int HR0.out x13_1 p423 q423
         cases e423
         replace p423 := eq_true p423
         replace q423 := eq_true q423
         have p424 : 0 ≤ (x13_1 : Int) := of_decide_eq_true (by first | (with_reducible assumption) | assumption)
         have q424 : x13_1 < (l1.length : Int) := of_decide_eq_true (by first | (with_reducible assumption) | assumption)
         obtain ⟨ad424, e424, hx424_0⟩ := Kd.at_int HR1.out x13_1 p424 q424
         cases e424
         replace p424 := eq_true p424
         replace q424 := eq_true q424
         go_wp2
         repeat (go_quiet (fail); try go_wp2)
         go_roundg k1
         case measure => have := HK1.out; omega
         case rel => exact ⟨(wrap64 (x13_1 + 1)), (by first | rfl | (simp; done) | (simp [*]; done)), H', ⟨by have := HK1.out; omega⟩, by repeat (first | exact Drawn0.refl _ | apply Drawn0.step)⟩
        ·rw [if_neg c8] at H
         have c8b0 : ((rd l0 x13_1) == (rd l1 x13_1)) = false := beq_eq_false_iff_ne.mpr c8
         have c8b1 : ((rd l0 x13_1) != (rd l1 x13_1)) = true := bne_iff_ne.mpr c8
         obtain rfl := Option.some.inj H
         have p423 : 0 ≤ (x13_1 : Int) := of_decide_eq_true (by first | (with_reducible assumption) | assumption)
         have q423 : x13_1 < (l0.length : Int) := of_decide_eq_true (by first | (with_reducible assumption) | assumption)
         obtain ⟨ad423, e423, hx423_0⟩ := Kd.at_int HR0.out x13_1 p423 q423
         cases e423
         replace p423 := eq_true p423
         replace q423 := eq_true q423
         have p424 : 0 ≤ (x13_1 : Int) := of_decide_eq_true (by first | (with_reducible assumption) | assumption)
         have q424 : x13_1 < (l1.length : Int) := of_decide_eq_true (by first | (with_reducible assumption) | assumption)
         obtain ⟨ad424, e424, hx424_0⟩ := Kd.at_int HR1.out x13_1 p424 q424
         cases e424
         replace p424 := eq_true p424
         replace q424 := eq_true q424
         go_wp2
         repeat (go_quiet (fail); try go_wp2)
         go_ret
         exact ⟨by first | rfl | (simp; done) | (simp [*]; done), by repeat (first | exact Drawn0.refl _ | apply Drawn0.step)⟩
       ·rw [if_neg c7] at H
        exact absurd H (by simp)
      ·rw [if_neg c6] at H
       exact absurd H (by simp)
     ·rw [if_neg c5] at H
      exact absurd H (by simp)
    ·rw [if_neg c4] at H
     have c4b0 : decide (x13_1 < (l0.length : Int)) = false := decide_eq_false c4
     clear c4
     obtain rfl := Option.some.inj H
     go_wp2
     repeat (go_quiet (fail); try go_wp2)
     go_ret
     exact ⟨by first | rfl | (simp; done) | (simp [*]; done), by repeat (first | exact Drawn0.refl _ | apply Drawn0.step)⟩
 ·rw [if_neg c3] at H
  have c3b0 : ((l0.length : Int) == (l1.length : Int)) = false := beq_eq_false_iff_ne.mpr c3
  have c3b1 : ((l0.length : Int) != (l1.length : Int)) = true := bne_iff_ne.mpr c3
  have c3b2 : (l0.length == l1.length) = false := by first | simpa using c3 | (simp at c3 ⊢; omega)
  obtain rfl := Option.some.inj H
  go_enter Try.func83, Try.ntmps83
  go_wp2
  repeat (go_quiet (fail); try go_wp2)
  go_ret
  exact ⟨by first | rfl | (simp; done) | (simp [*]; done), by repeat (first | exact Drawn0.refl _ | apply Drawn0.step)⟩

/-! ### impl_EqualStates: function 25 -/
def impl_EqualStates.f (k : Nat) (a0_0 : Int) (l0_1 : List Int) (l0_2 : List Int) (l0_3 : List Int) (a1_0 : Int) (l1_1 : List Int) (l1_2 : List Int) (l1_3 : List Int) : Option (Bool) := if a0_0 = a1_0 then ((slices_Equal_int_int.f k l0_1 l1_1).bind fun t427 => (if t427 = true then ((slices_Equal_int_int.f k l0_2 l1_2).bind fun t428 => (if t428 = true then ((slices_Equal_int_int.f k l0_3 l1_3).bind fun t429 => (some t429)) else (some false))) else (some false))) else (some false)
set_option maxHeartbeats 8000000 in
set_option maxRecDepth 100000 in
theorem impl_EqualStates.calls (k : Nat) (a0_0 : Int) (A0_1 : Option Addr) (c0_1 : Nat) (l0_1 : List Int) (A0_2 : Option Addr) (c0_2 : Nat) (l0_2 : List Int) (A0_3 : Option Addr) (c0_3 : Nat) (l0_3 : List Int) (a1_0 : Int) (A1_1 : Option Addr) (c1_1 : Nat) (l1_1 : List Int) (A1_2 : Option Addr) (c1_2 : Nat) (l1_2 : List Int) (A1_3 : Option Addr) (c1_3 : Nat) (l1_3 : List Int) (r : Bool) (w : World) (hr0_1 : Kd.C (Kd.int .i64) w A0_1 l0_1.length l0_1) (hc0_1 : l0_1.length ≤ c0_1) (hr0_2 : Kd.C (Kd.int .i64) w A0_2 l0_2.length l0_2) (hc0_2 : l0_2.length ≤ c0_2) (hr0_3 : Kd.C (Kd.int .i64) w A0_3 l0_3.length l0_3) (hc0_3 : l0_3.length ≤ c0_3) (hr1_1 : Kd.C (Kd.int .i64) w A1_1 l1_1.length l1_1) (hc1_1 : l1_1.length ≤ c1_1) (hr1_2 : Kd.C (Kd.int .i64) w A1_2 l1_2.length l1_2) (hc1_2 : l1_2.length ≤ c1_2) (hr1_3 : Kd.C (Kd.int .i64) w A1_3 l1_3.length l1_3) (hc1_3 : l1_3.length ≤ c1_3) (h : impl_EqualStates.f k a0_0 l0_1 l0_2 l0_3 a1_0 l1_1 l1_2 l1_3 = some r) :
  Calls Try.prog 25 #[.agg #[.int .i64 a0_0, .slice A0_1 l0_1.length c0_1, .slice A0_2 l0_2.length c0_2, .slice A0_3 l0_3.length c0_3], .agg #[.int .i64 a1_0, .slice A1_1 l1_1.length c1_1, .slice A1_2 l1_2.length c1_2, .slice A1_3 l1_3.length c1_3]] w fun e w' => e = .returned (.bool r) ∧ Below w.heap.size w w' := by
 have hu45 := Try.underlying45
 have HR0_1 := Aside0.mk hr0_1
 have HC0_1 := Aside0.mk hc0_1
 clear hr0_1 hc0_1
 have HR0_2 := Aside0.mk hr0_2
 have HC0_2 := Aside0.mk hc0_2
 clear hr0_2 hc0_2
 have HR0_3 := Aside0.mk hr0_3
 have HC0_3 := Aside0.mk hc0_3
 clear hr0_3 hc0_3
 have HR1_1 := Aside0.mk hr1_1
 have HC1_1 := Aside0.mk hc1_1
 clear hr1_1 hc1_1
 have HR1_2 := Aside0.mk hr1_2
 have HC1_2 := Aside0.mk hc1_2
 clear hr1_2 hc1_2
 have HR1_3 := Aside0.mk hr1_3
 have HC1_3 := Aside0.mk hc1_3
 clear hr1_3 hc1_3
 have HB := ak (Below.refl w.heap.size w)
 have H : (if a0_0 = a1_0 then ((slices_Equal_int_int.f k l0_1 l1_1).bind fun t427 => (if t427 = true then ((slices_Equal_int_int.f k l0_2 l1_2).bind fun t428 => (if t428 = true then ((slices_Equal_int_int.f k l0_3 l1_3).bind fun t429 => (some t429)) else (some false))) else (some false))) else (some false)) = some r := h
 clear h
 by_cases c3 : a0_0 = a1_0
 ·rw [if_pos c3] at H
  have c3b0 : (a0_0 == a1_0) = true := beq_iff_eq.mpr c3
  have c3b1 : (a0_0 != a1_0) = false := bne_eq_false_iff_eq.mpr c3
  clear c3
  replace H := Option.bind_eq_some_iff.mp H
  obtain ⟨t427, A40, H⟩ := H
  replace H : (if t427 = true then ((slices_Equal_int_int.f k l0_2 l1_2).bind fun t428 => (if t428 = true then ((slices_Equal_int_int.f k l0_3 l1_3).bind fun t429 => (some t429)) else (some false))) else (some false)) = some r := H
  have A4 := Aside0.mk A40
  clear A40
  by_cases c5 : t427 = true
  ·subst c5
   have H1 : ((slices_Equal_int_int.f k l0_2 l1_2).bind fun t428 => (if t428 = true then ((slices_Equal_int_int.f k l0_3 l1_3).bind fun t429 => (some t429)) else (some false))) = some r := by rw [if_pos rfl] at H; exact H
   clear H
   have H := H1
   clear H1
   replace H := Option.bind_eq_some_iff.mp H
   obtain ⟨t428, A60, H⟩ := H
   replace H : (if t428 = true then ((slices_Equal_int_int.f k l0_3 l1_3).bind fun t429 => (some t429)) else (some false)) = some r := H
   have A6 := Aside0.mk A60
   clear A60
   by_cases c7 : t428 = true
   ·subst c7
    have H1 : ((slices_Equal_int_int.f k l0_3 l1_3).bind fun t429 => (some t429)) = some r := by rw [if_pos rfl] at H; exact H
    clear H
    have H := H1
    clear H1
    replace H := Option.bind_eq_some_iff.mp H
    obtain ⟨t429, A80, H⟩ := H
    replace H : (some t429) = some r := H
    have A8 := Aside0.mk A80
    clear A80
    obtain rfl := Option.some.inj H
    go_enter Try.func25, Try.ntmps25
    go_wp2_with (first | ((with_reducible refine gate_dst (N := 2) rfl ?_); refine bx_ (N := 2) #[.int .i64 a0_0, .slice A0_1 l0_1.length c0_1, .slice A0_2 l0_2.length c0_2, .slice A0_3 l0_3.length c0_3] 45 ?_; intro gb425 hg w9 hbox hb; have BK425 := ak hbox; have GW425 := gy hg HB; have GE425 := gy hg HB; replace HB := bs HB hb; clear hb hbox hg) | ((with_reducible refine gate_dst (N := 3) rfl ?_); refine bx_ (N := 3) #[.int .i64 a1_0, .slice A1_1 l1_1.length c1_1, .slice A1_2 l1_2.length c1_2, .slice A1_3 l1_3.length c1_3] 45 ?_; intro gb426 hg w10 hbox hb; have BK426 := ak hbox; have GW426 := gy hg HB; have GE426 := gy hg HB; replace HB := bs HB hb; have NB425_426 := gm hg BK425; have NB426_425 := gn hg BK425; replace BK425 := kf BK425 hb; clear hb hbox hg; have hnb11 := NB425_426.out; have hnc11 := NB426_425.out; obtain ⟨hcz12_0, hcz12_1, hcz12_2, hcz12_3, hfz12_0, hfz12_1, hfz12_2, hfz12_3⟩ := bc4 BK425; obtain ⟨_, _, _, _, _, _, _, _⟩ := bc4 BK426) | (go_at_call 83; (with_reducible refine (slices_Equal_int_int.calls k _ _ l0_1 _ _ l1_1 true _ ?side1 ?side2 ?side3 ?side4 A4.out).mono ?_); (case side1 => exact CR (Kd.C_below HR0_1.out HB.out)); (case side2 => exact HC0_1.out); (case side3 => exact CR (Kd.C_below HR1_1.out HB.out)); (case side4 => exact HC1_1.out); rintro e w' ⟨rfl, ⟨nd, rfl⟩⟩) | (go_at_call 83; (with_reducible refine (slices_Equal_int_int.calls k _ _ l0_2 _ _ l1_2 true _ ?side1 ?side2 ?side3 ?side4 A6.out).mono ?_); (case side1 => repeat (first | exact (Kd.C_below HR0_2.out PB) | (with_reducible refine Kd.C_alloc ?_ _) | (with_reducible refine Kd.C_drewN ?_ _) | (with_reducible refine Kd.C_drew ?_))); (case side2 => exact HC0_2.out); (case side3 => repeat (first | exact (Kd.C_below HR1_2.out PB) | (with_reducible refine Kd.C_alloc ?_ _) | (with_reducible refine Kd.C_drewN ?_ _) | (with_reducible refine Kd.C_drew ?_))); (case side4 => exact HC1_2.out); rintro e w' ⟨rfl, ⟨nd, rfl⟩⟩) | (go_at_call 83; (with_reducible refine (slices_Equal_int_int.calls k _ _ l0_3 _ _ l1_3 t429 _ ?side1 ?side2 ?side3 ?side4 A8.out).mono ?_); (case side1 => repeat (first | exact (Kd.C_below HR0_3.out PB) | (with_reducible refine Kd.C_alloc ?_ _) | (with_reducible refine Kd.C_drewN ?_ _) | (with_reducible refine Kd.C_drew ?_))); (case side2 => exact HC0_3.out); (case side3 => repeat (first | exact (Kd.C_below HR1_3.out PB) | (with_reducible refine Kd.C_alloc ?_ _) | (with_reducible refine Kd.C_drewN ?_ _) | (with_reducible refine Kd.C_drew ?_))); (case side4 => exact HC1_3.out); rintro e w' ⟨rfl, ⟨nd, rfl⟩⟩))
    go_ret
    exact ⟨RT, PB⟩
   ·replace c7 := Bool.eq_false_iff.mpr c7
    subst c7
    have H1 : (some false) = some r := by rw [if_neg (show ¬ (false = true) by decide)] at H; exact H
    clear H
    have H := H1
    clear H1
    obtain rfl := Option.some.inj H
    go_enter Try.func25, Try.ntmps25
    go_wp2_with (first | ((with_reducible refine gate_dst (N := 2) rfl ?_); refine bx_ (N := 2) #[.int .i64 a0_0, .slice A0_1 l0_1.length c0_1, .slice A0_2 l0_2.length c0_2, .slice A0_3 l0_3.length c0_3] 45 ?_; intro gb425 hg w14 hbox hb; have BK425 := ak hbox; have GW425 := gy hg HB; have GE425 := gy hg HB; replace HB := bs HB hb; clear hb hbox hg) | ((with_reducible refine gate_dst (N := 3) rfl ?_); refine bx_ (N := 3) #[.int .i64 a1_0, .slice A1_1 l1_1.length c1_1, .slice A1_2 l1_2.length c1_2, .slice A1_3 l1_3.length c1_3] 45 ?_; intro gb426 hg w15 hbox hb; have BK426 := ak hbox; have GW426 := gy hg HB; have GE426 := gy hg HB; replace HB := bs HB hb; have NB425_426 := gm hg BK425; have NB426_425 := gn hg BK425; replace BK425 := kf BK425 hb; clear hb hbox hg; have hnb16 := NB425_426.out; have hnc16 := NB426_425.out; obtain ⟨_, _, _, _, _, _, _, _⟩ := bc4 BK425; obtain ⟨_, _, _, _, _, _, _, _⟩ := bc4 BK426) | (go_at_call 83; (with_reducible refine (slices_Equal_int_int.calls k _ _ l0_1 _ _ l1_1 true _ ?side1 ?side2 ?side3 ?side4 A4.out).mono ?_); (case side1 => exact CR (Kd.C_below HR0_1.out HB.out)); (case side2 => exact HC0_1.out); (case side3 => exact CR (Kd.C_below HR1_1.out HB.out)); (case side4 => exact HC1_1.out); rintro e w' ⟨rfl, ⟨nd, rfl⟩⟩) | (go_at_call 83; (with_reducible refine (slices_Equal_int_int.calls k _ _ l0_2 _ _ l1_2 false _ ?side1 ?side2 ?side3 ?side4 A6.out).mono ?_); (case side1 => repeat (first | exact (Kd.C_below HR0_2.out PB) | (with_reducible refine Kd.C_alloc ?_ _) | (with_reducible refine Kd.C_drewN ?_ _) | (with_reducible refine Kd.C_drew ?_))); (case side2 => exact HC0_2.out); (case side3 => repeat (first | exact (Kd.C_below HR1_2.out PB) | (with_reducible refine Kd.C_alloc ?_ _) | (with_reducible refine Kd.C_drewN ?_ _) | (with_reducible refine Kd.C_drew ?_))); (case side4 => exact HC1_2.out); rintro e w' ⟨rfl, ⟨nd, rfl⟩⟩))
    go_ret
    exact ⟨RT, PB⟩
  ·replace c5 := Bool.eq_false_iff.mpr c5
   subst c5
   have H1 : (some false) = some r := by rw [if_neg (show ¬ (false = true) by decide)] at H; exact H
   clear H
   have H := H1
   clear H1
   obtain rfl := Option.some.inj H
   go_enter Try.func25, Try.ntmps25
   go_wp2_with (first | ((with_reducible refine gate_dst (N := 2) rfl ?_); refine bx_ (N := 2) #[.int .i64 a0_0, .slice A0_1 l0_1.length c0_1, .slice A0_2 l0_2.length c0_2, .slice A0_3 l0_3.length c0_3] 45 ?_; intro gb425 hg w19 hbox hb; have BK425 := ak hbox; have GW425 := gy hg HB; have GE425 := gy hg HB; replace HB := bs HB hb; clear hb hbox hg) | ((with_reducible refine gate_dst (N := 3) rfl ?_); refine bx_ (N := 3) #[.int .i64 a1_0, .slice A1_1 l1_1.length c1_1, .slice A1_2 l1_2.length c1_2, .slice A1_3 l1_3.length c1_3] 45 ?_; intro gb426 hg w20 hbox hb; have BK426 := ak hbox; have GW426 := gy hg HB; have GE426 := gy hg HB; replace HB := bs HB hb; have NB425_426 := gm hg BK425; have NB426_425 := gn hg BK425; replace BK425 := kf BK425 hb; clear hb hbox hg; have hnb21 := NB425_426.out; have hnc21 := NB426_425.out; obtain ⟨_, _, _, _, _, _, _, _⟩ := bc4 BK425; obtain ⟨_, _, _, _, _, _, _, _⟩ := bc4 BK426) | (go_at_call 83; (with_reducible refine (slices_Equal_int_int.calls k _ _ l0_1 _ _ l1_1 false _ ?side1 ?side2 ?side3 ?side4 A4.out).mono ?_); (case side1 => exact CR (Kd.C_below HR0_1.out HB.out)); (case side2 => exact HC0_1.out); (case side3 => exact CR (Kd.C_below HR1_1.out HB.out)); (case side4 => exact HC1_1.out); rintro e w' ⟨rfl, ⟨nd, rfl⟩⟩))
   go_ret
   exact ⟨RT, PB⟩
 ·rw [if_neg c3] at H
  have c3b0 : (a0_0 == a1_0) = false := beq_eq_false_iff_ne.mpr c3
  have c3b1 : (a0_0 != a1_0) = true := bne_iff_ne.mpr c3
  obtain rfl := Option.some.inj H
  go_enter Try.func25, Try.ntmps25
  go_wp2_with (first | ((with_reducible refine gate_dst (N := 2) rfl ?_); refine bx_ (N := 2) #[.int .i64 a0_0, .slice A0_1 l0_1.length c0_1, .slice A0_2 l0_2.length c0_2, .slice A0_3 l0_3.length c0_3] 45 ?_; intro gb425 hg w24 hbox hb; have BK425 := ak hbox; have GW425 := gy hg HB; have GE425 := gy hg HB; replace HB := bs HB hb; clear hb hbox hg) | ((with_reducible refine gate_dst (N := 3) rfl ?_); refine bx_ (N := 3) #[.int .i64 a1_0, .slice A1_1 l1_1.length c1_1, .slice A1_2 l1_2.length c1_2, .slice A1_3 l1_3.length c1_3] 45 ?_; intro gb426 hg w25 hbox hb; have BK426 := ak hbox; have GW426 := gy hg HB; have GE426 := gy hg HB; replace HB := bs HB hb; have NB425_426 := gm hg BK425; have NB426_425 := gn hg BK425; replace BK425 := kf BK425 hb; clear hb hbox hg; have hnb26 := NB425_426.out; have hnc26 := NB426_425.out; obtain ⟨hcz27_0, hcz27_1, hcz27_2, hcz27_3, hfz27_0, hfz27_1, hfz27_2, hfz27_3⟩ := bc4 BK425; obtain ⟨_, _, _, _, _, _, _, _⟩ := bc4 BK426))
  go_ret
  exact ⟨RT, PB⟩

/-! ### impl_IsAddress: function 27 -/
def impl_IsAddress.f (a0_0 : Int) (a0_1 : Int) (a0_2 : Int) : Option (Bool) := (impl_InRange.f a0_0 1 9).bind fun t431 => (if t431 = true then ((impl_InRange.f a0_1 0 99).bind fun t432 => (if t432 = true then ((impl_InRange.f a0_2 0 99).bind fun t433 => (some t433)) else (some false))) else (some false))
set_option maxHeartbeats 8000000 in
set_option maxRecDepth 100000 in
theorem impl_IsAddress.calls (a0_0 : Int) (a0_1 : Int) (a0_2 : Int) (r : Bool) (w : World) (h : impl_IsAddress.f a0_0 a0_1 a0_2 = some r) :
  Calls Try.prog 27 #[.agg #[.int .i64 a0_0, .int .i64 a0_1, .int .i64 a0_2]] w fun e w' => e = .returned (.bool r) ∧ Below w.heap.size w w' := by
 have hu26 := Try.underlying26
 have HB := ak (Below.refl w.heap.size w)
 have H : ((impl_InRange.f a0_0 1 9).bind fun t431 => (if t431 = true then ((impl_InRange.f a0_1 0 99).bind fun t432 => (if t432 = true then ((impl_InRange.f a0_2 0 99).bind fun t433 => (some t433)) else (some false))) else (some false))) = some r := h
 clear h
 replace H := Option.bind_eq_some_iff.mp H
 obtain ⟨t431, A20, H⟩ := H
 replace H : (if t431 = true then ((impl_InRange.f a0_1 0 99).bind fun t432 => (if t432 = true then ((impl_InRange.f a0_2 0 99).bind fun t433 => (some t433)) else (some false))) else (some false)) = some r := H
 have A2 := Aside0.mk A20
 clear A20
 by_cases c3 : t431 = true
 ·subst c3
  have H1 : ((impl_InRange.f a0_1 0 99).bind fun t432 => (if t432 = true then ((impl_InRange.f a0_2 0 99).bind fun t433 => (some t433)) else (some false))) = some r := by rw [if_pos rfl] at H; exact H
  clear H
  have H := H1
  clear H1
  replace H := Option.bind_eq_some_iff.mp H
  obtain ⟨t432, A40, H⟩ := H
  replace H : (if t432 = true then ((impl_InRange.f a0_2 0 99).bind fun t433 => (some t433)) else (some false)) = some r := H
  have A4 := Aside0.mk A40
  clear A40
  by_cases c5 : t432 = true
  ·subst c5
   have H1 : ((impl_InRange.f a0_2 0 99).bind fun t433 => (some t433)) = some r := by rw [if_pos rfl] at H; exact H
   clear H
   have H := H1
   clear H1
   replace H := Option.bind_eq_some_iff.mp H
   obtain ⟨t433, A60, H⟩ := H
   replace H : (some t433) = some r := H
   have A6 := Aside0.mk A60
   clear A60
   obtain rfl := Option.some.inj H
   go_enter Try.func27, Try.ntmps27
   go_wp2_with (first | ((with_reducible refine gate_dst (N := 1) rfl ?_); refine bx_ (N := 1) #[.int .i64 a0_0, .int .i64 a0_1, .int .i64 a0_2] 26 ?_; intro gb430 hg w7 hbox hb; have BK430 := ak hbox; have GW430 := gy hg HB; have GE430 := gy hg HB; replace HB := bs HB hb; clear hb hbox hg; obtain ⟨_, _, _, _, _, _⟩ := bc3 BK430) | ((with_reducible refine gate_callee (f := 69) rfl ?_); refine goesL_ (some 5) rfl rfl Try.func69 KR rfl #[.int .i64 a0_0, .int .i64 1, .int .i64 9] rfl AR ?_; (with_reducible refine (impl_InRange.calls a0_0 1 9 true _ A2.out).mono ?_); rintro e w' ⟨rfl, ⟨nd, rfl⟩⟩; refine ⟨_, rfl, ?_⟩) | (go_at_call 69; (with_reducible refine (impl_InRange.calls a0_1 0 99 true _ A4.out).mono ?_); rintro e w' ⟨rfl, ⟨nd, rfl⟩⟩) | (go_at_call 69; (with_reducible refine (impl_InRange.calls a0_2 0 99 t433 _ A6.out).mono ?_); rintro e w' ⟨rfl, ⟨nd, rfl⟩⟩))
   go_ret
   exact ⟨RT, PB⟩
  ·replace c5 := Bool.eq_false_iff.mpr c5
   subst c5
   have H1 : (some false) = some r := by rw [if_neg (show ¬ (false = true) by decide)] at H; exact H
   clear H
   have H := H1
   clear H1
   obtain rfl := Option.some.inj H
   go_enter Try.func27, Try.ntmps27
   go_wp2_with (first | ((with_reducible refine gate_dst (N := 1) rfl ?_); refine bx_ (N := 1) #[.int .i64 a0_0, .int .i64 a0_1, .int .i64 a0_2] 26 ?_; intro gb430 hg w9 hbox hb; have BK430 := ak hbox; have GW430 := gy hg HB; have GE430 := gy hg HB; replace HB := bs HB hb; clear hb hbox hg; obtain ⟨_, _, _, _, _, _⟩ := bc3 BK430) | ((with_reducible refine gate_callee (f := 69) rfl ?_); refine goesL_ (some 5) rfl rfl Try.func69 KR rfl #[.int .i64 a0_0, .int .i64 1, .int .i64 9] rfl AR ?_; (with_reducible refine (impl_InRange.calls a0_0 1 9 true _ A2.out).mono ?_); rintro e w' ⟨rfl, ⟨nd, rfl⟩⟩; refine ⟨_, rfl, ?_⟩) | (go_at_call 69; (with_reducible refine (impl_InRange.calls a0_1 0 99 false _ A4.out).mono ?_); rintro e w' ⟨rfl, ⟨nd, rfl⟩⟩))
   go_ret
   exact ⟨RT, PB⟩
 ·replace c3 := Bool.eq_false_iff.mpr c3
  subst c3
  have H1 : (some false) = some r := by rw [if_neg (show ¬ (false = true) by decide)] at H; exact H
  clear H
  have H := H1
  clear H1
  obtain rfl := Option.some.inj H
  go_enter Try.func27, Try.ntmps27
  go_wp2_with (first | ((with_reducible refine gate_dst (N := 1) rfl ?_); refine bx_ (N := 1) #[.int .i64 a0_0, .int .i64 a0_1, .int .i64 a0_2] 26 ?_; intro gb430 hg w11 hbox hb; have BK430 := ak hbox; have GW430 := gy hg HB; have GE430 := gy hg HB; replace HB := bs HB hb; clear hb hbox hg; obtain ⟨hcz12_0, hcz12_1, hcz12_2, hfz12_0, hfz12_1, hfz12_2⟩ := bc3 BK430) | ((with_reducible refine gate_callee (f := 69) rfl ?_); refine goesL_ (some 5) rfl rfl Try.func69 KR rfl #[.int .i64 a0_0, .int .i64 1, .int .i64 9] rfl AR ?_; (with_reducible refine (impl_InRange.calls a0_0 1 9 false _ A2.out).mono ?_); rintro e w' ⟨rfl, ⟨nd, rfl⟩⟩; refine ⟨_, rfl, ?_⟩))
  go_ret
  exact ⟨RT, PB⟩

end Go.Proofs.Ytgcamebeonodeaa.MFnMachine
