-- Written by a program of this session out of the translation's own print. Not trusted: Lean checks it.
import Derived.Test.YtgcamebeonodeaaShr2
import Derived.Test.YtgcamebeonodeaaMFnNearestx0
import Derived.Test.YtgcamebeonodeaaMFnNearestx5
namespace Go.Proofs.Ytgcamebeonodeaa.MFnNearest
open Go.RowKit Go.Proofs.YtgcamebeonodeaaW.PrintWords Go.Proofs.YtgcamebeonodeaaW.PrintLast Go.Proofs.YtgcamebeonodeaaW.PrintMore
attribute [local go_sem] max2_int min2_int max_two min_two max_three min_three max_four min_four   -- for this text's walks alone
set_option linter.unusedVariables false
set_option linter.unusedSimpArgs false

abbrev b6_0 : Array Bool := mkB 13 8191
abbrev b6_1 : Array Bool := mkB 13 4095
abbrev b6_2 : Array Bool := mkB 13 2047
abbrev b6_3 : Array Bool := mkB 13 1023
abbrev b6_4 : Array Bool := mkB 13 1015
abbrev b6_5 : Array Bool := mkB 13 759
abbrev b6_6 : Array Bool := mkB 13 757
abbrev b6_7 : Array Bool := mkB 13 245
abbrev b6_8 : Array Bool := mkB 13 117
abbrev b6_9 : Array Bool := mkB 13 53
abbrev b6_10 : Array Bool := mkB 13 21
abbrev b6_11 : Array Bool := mkB 13 5
abbrev b6_12 : Array Bool := mkB 13 1
abbrev b6_13 : Array Bool := #[false, false, false, false, false, false, false, false, false, false, false, false, false]
abbrev b6_14 : Array Bool := mkB 18 262143
abbrev b6_15 : Array Bool := mkB 18 131071
abbrev b6_16 : Array Bool := mkB 18 65535
abbrev b6_17 : Array Bool := mkB 18 32767
abbrev b6_18 : Array Bool := mkB 18 16383
abbrev b6_19 : Array Bool := mkB 18 15871
abbrev b6_20 : Array Bool := mkB 18 8191
abbrev b6_21 : Array Bool := mkB 18 7679
abbrev b6_22 : Array Bool := mkB 18 4095
abbrev b6_23 : Array Bool := mkB 18 3583
abbrev b6_24 : Array Bool := mkB 18 2047
abbrev b6_25 : Array Bool := mkB 18 1535
abbrev b6_26 : Array Bool := mkB 18 1023
abbrev b6_27 : Array Bool := mkB 18 511
abbrev b6_28 : Array Bool := mkB 18 255
abbrev b6_29 : Array Bool := mkB 18 127
abbrev b6_30 : Array Bool := mkB 18 63
abbrev b6_31 : Array Bool := mkB 18 31
abbrev b6_32 : Array Bool := mkB 18 15
abbrev b6_33 : Array Bool := mkB 18 7
abbrev b6_34 : Array Bool := mkB 18 3
abbrev b6_35 : Array Bool := mkB 18 1
abbrev b6_36 : Array Bool := #[false, false, false, false, false, false, false, false, false, false, false, false, false, false, false, false, false, false]
/-! ### impl_nearest: function 70 -/
def impl_nearest.l0 : Nat → List (S40) → Int → Int → Int → List (S40) → Int → Int → Int → Int → Int → Option (Int)
  | 0, _, _, _, _, _, _, _, _, _, _ => none
  | k + 1, x0, x2, x3, x9, x14, x15, x16, x350000, x350001, x350002 => if x16 < x15 then (if 0 ≤ x16 then (if x16 < (x14.length : Int) then ((impl_DistanceOf.f ((rd_T40 x14 x16).f0.f0) ((rd_T40 x14 x16).f0.f1) ((rd_T40 x14 x16).f0.f2) x350000 x350001 x350002).bind fun t352 => (if t352 = x3 then (if x9 < 0 then (impl_nearest.l0 k x0 x2 x3 x16 x14 x15 (wrap64 (x16 + 1)) x350000 x350001 x350002) else ((impl_distance.f ((rd_T40 x14 x16).f1) x2).bind fun t353 => (if 0 ≤ x9 then (if x9 < (x0.length : Int) then ((impl_distance.f ((rd_T40 x0 x9).f1) x2).bind fun t355 => (if t353 < t355 then (impl_nearest.l0 k x0 x2 x3 x16 x14 x15 (wrap64 (x16 + 1)) x350000 x350001 x350002) else (if t353 = t355 then (if ((rd_T40 x14 x16).f1) < ((rd_T40 x0 x9).f1) then (impl_nearest.l0 k x0 x2 x3 x16 x14 x15 (wrap64 (x16 + 1)) x350000 x350001 x350002) else (impl_nearest.l0 k x0 x2 x3 x9 x14 x15 (wrap64 (x16 + 1)) x350000 x350001 x350002)) else (impl_nearest.l0 k x0 x2 x3 x9 x14 x15 (wrap64 (x16 + 1)) x350000 x350001 x350002)))) else (none)) else (none)))) else (impl_nearest.l0 k x0 x2 x3 x9 x14 x15 (wrap64 (x16 + 1)) x350000 x350001 x350002))) else (none)) else (none)) else (some x9)
def impl_nearest.f (k : Nat) (l0 : List (S40)) (a1_0 : Int) (a1_1 : Int) (a1_2 : Int) (a2 : Int) (a3 : Int) : Option (Int) := impl_nearest.l0 k l0 a2 a3 (-1) l0 (l0.length : Int) 0 a1_0 a1_1 a1_2
def impl_nearest.T8 : Bool × List (List Nat × List Nat) := (true, [([], []), ([0], [0]), ([], []), ([1, 2], [1, 2]), ([], []), ([], []), ([4, 5], [4, 5]), ([6], [6]), ([7], [7]), ([], []), ([8, 9, 3], [8, 9]), ([3, 10, 0, 1, 2, 3], [3]), ([10, 11, 0, 1, 2, 3, 4, 5, 6, 7, 8, 9, 10, 11], [10])])
def impl_nearest.B8 : List Nat := [0, 1, 0, 7, 0, 0, 48, 112, 240, 0, 1023, 2047, 4095]
theorem impl_nearest.tab8 : rtab .any (opsOf Try.f70 8) = impl_nearest.T8 := by kernel_rfl
theorem impl_nearest.bits8 : waitsOk impl_nearest.T8.2 impl_nearest.B8 = true := by kernel_rfl
def impl_nearest.T9 : Bool × List (List Nat × List Nat) := (true, [([], []), ([], []), ([0, 1], [0, 1]), ([2], [2]), ([3], [3]), ([3], [3]), ([4, 5, 3], [3, 4, 5]), ([6, 3, 3], [3, 6]), ([7], [7]), ([8, 7], [7, 8]), ([7], [7]), ([7], [7]), ([10, 11, 7], [7, 10, 11]), ([12, 7], [7, 12]), ([13, 7], [7, 13]), ([9, 14, 7], [7, 9, 14]), ([7, 15, 3], [3, 7, 15]), ([3, 16], [3, 16])])
def impl_nearest.B9 : List Nat := [0, 0, 3, 7, 15, 15, 63, 127, 255, 511, 255, 255, 3327, 7423, 15615, 32767, 65535, 131071]
theorem impl_nearest.tab9 : rtab .any (opsOf Try.f70 9) = impl_nearest.T9 := by kernel_rfl
theorem impl_nearest.bits9 : waitsOk impl_nearest.T9.2 impl_nearest.B9 = true := by kernel_rfl
set_option maxHeartbeats 8000000 in
set_option maxRecDepth 100000 in
theorem impl_nearest.calls (k : Nat) (A0 : Option Addr) (c0 : Nat) (l0 : List (S40)) (a1_0 : Int) (a1_1 : Int) (a1_2 : Int) (a2 : Int) (a3 : Int) (r : Int) (w : World) (hr0 : Kd.C k40 w A0 l0.length l0) (hc0 : l0.length ≤ c0) (h : impl_nearest.f k l0 a1_0 a1_1 a1_2 a2 a3 = some r) :
  Calls Try.prog 70 #[.slice A0 l0.length c0, .agg #[.int .i64 a1_0, .int .i64 a1_1, .int .i64 a1_2], .int .i64 a2, .int .i64 a3] w fun e w' => e = .returned (.int .i64 r) ∧ Below w.heap.size w w' := by
 have hu26 := Try.underlying26
 have hu40 := Try.underlying40
 have HR0 := Aside0.mk hr0
 have HC0 := Aside0.mk hc0
 clear hr0 hc0
 have HB := ak (Below.refl w.heap.size w)
 have H : (impl_nearest.l0 k l0 a2 a3 (-1) l0 (l0.length : Int) 0 a1_0 a1_1 a1_2) = some r := h
 clear h
 have H' := Aside0.mk H
 clear H
 go_enter Try.func70, Try.ntmps70
 go_wp2_with (first | ((with_reducible refine gate_dst (N := 5) rfl ?_); refine bx_ (N := 5) #[.int .i64 a1_0, .int .i64 a1_1, .int .i64 a1_2] 26 ?_; intro gb349 hg w5 hbox hb; have BK349 := ak hbox; have GW349 := gy hg HB; have GE349 := gy hg HB; replace HB := bs HB hb; clear hb hbox hg))
 go_loopg [9, 16] k (fun kq v9 v16 w' => ∃ (x9_1 : Int) (x16_1 : Int), v9 = .int .i64 x9_1 ∧ v16 = .int .i64 x16_1 ∧ Aside0 (impl_nearest.l0 kq l0 a2 a3 x9_1 l0 (l0.length : Int) x16_1 a1_0 a1_1 a1_2 = some r) ∧ Aside0 (kq ≤ k) ∧ Aside0 (w'.heap[gb349]? = some (.cells #[.int .i64 a1_0, .int .i64 a1_1, .int .i64 a1_2] 26 (0, 0))) ∧ Aside0 (Below w.heap.size w w'))
 case atStart => exact ⟨((-1)), (0), (by first | rfl | (simp; done) | (simp [*]; done)), (by first | rfl | (simp; done) | (simp [*]; done)), H', ⟨Nat.le_refl _⟩, ⟨PK BK349⟩, ⟨PB⟩⟩
 case round =>
  clear H'
  try clear p2
  obtain ⟨x9_1, x16_1, rfl, rfl, HA, HK1, BK349, HB⟩ := hrel
  cases gk with
  | zero => exact absurd HA.out (by simp [impl_nearest.l0])
  | succ k1 =>
   have H := HA.out
   clear HA
   simp only [impl_nearest.l0] at H
   by_cases c6 : x16_1 < (l0.length : Int)
   ·rw [if_pos c6] at H
    have c6b0 : decide (x16_1 < (l0.length : Int)) = true := decide_eq_true c6
    clear c6
    by_cases c7 : 0 ≤ x16_1
    ·rw [if_pos c7] at H
     have c7b0 : decide (0 ≤ x16_1) = true := decide_eq_true c7
     clear c7
     by_cases c8 : x16_1 < (l0.length : Int)
     ·rw [if_pos c8] at H
      have c8b0 : decide (x16_1 < (l0.length : Int)) = true := decide_eq_true c8
      clear c8
      replace H := Option.bind_eq_some_iff.mp H
      obtain ⟨t352, A90, H⟩ := H
      replace H : (if t352 = a3 then (if x9_1 < 0 then (impl_nearest.l0 k1 l0 a2 a3 x16_1 l0 (l0.length : Int) (wrap64 (x16_1 + 1)) a1_0 a1_1 a1_2) else ((impl_distance.f ((rd_T40 l0 x16_1).f1) a2).bind fun t353 => (if 0 ≤ x9_1 then (if x9_1 < (l0.length : Int) then ((impl_distance.f ((rd_T40 l0 x9_1).f1) a2).bind fun t355 => (if t353 < t355 then (impl_nearest.l0 k1 l0 a2 a3 x16_1 l0 (l0.length : Int) (wrap64 (x16_1 + 1)) a1_0 a1_1 a1_2) else (if t353 = t355 then (if ((rd_T40 l0 x16_1).f1) < ((rd_T40 l0 x9_1).f1) then (impl_nearest.l0 k1 l0 a2 a3 x16_1 l0 (l0.length : Int) (wrap64 (x16_1 + 1)) a1_0 a1_1 a1_2) else (impl_nearest.l0 k1 l0 a2 a3 x9_1 l0 (l0.length : Int) (wrap64 (x16_1 + 1)) a1_0 a1_1 a1_2)) else (impl_nearest.l0 k1 l0 a2 a3 x9_1 l0 (l0.length : Int) (wrap64 (x16_1 + 1)) a1_0 a1_1 a1_2)))) else (none)) else (none)))) else (impl_nearest.l0 k1 l0 a2 a3 x9_1 l0 (l0.length : Int) (wrap64 (x16_1 + 1)) a1_0 a1_1 a1_2)) = some r := H
      have A9 := Aside0.mk A90
      clear A90
      by_cases c10 : t352 = a3
      ·rw [if_pos c10] at H
       have c10b0 : (t352 == a3) = true := beq_iff_eq.mpr c10
       have c10b1 : (t352 != a3) = false := bne_eq_false_iff_eq.mpr c10
       clear c10
       by_cases c11 : x9_1 < 0
       ·rw [if_pos c11] at H
        have c11b0 : decide (x9_1 < 0) = true := decide_eq_true c11
        clear c11
        have H' := Aside0.mk H
        clear H
        have p350 : 0 ≤ (x16_1 : Int) := of_decide_eq_true (by first | (with_reducible assumption) | assumption)
        have q350 : x16_1 < (l0.length : Int) := of_decide_eq_true (by first | (with_reducible assumption) | assumption)
        obtain ⟨ad350, A350_5, c350_5, e350, hx350_0, hx350_1, hx350_2, hx350_3, hx350_4, hx350_5, hx350_6, hx350_7, hx350_8, hl350_5, hi350_5⟩ := at_T40 HR0.out x16_1 p350 q350
        cases e350
        replace hx350_0 := hx_ HB hx350_0
        replace hx350_1 := hx_ HB hx350_1
        replace hx350_2 := hx_ HB hx350_2
        replace hx350_3 := hx_ HB hx350_3
        replace hx350_4 := hx_ HB hx350_4
        replace hx350_5 := hx_ HB hx350_5
        replace hx350_6 := hx_ HB hx350_6
        replace hx350_7 := hx_ HB hx350_7
        replace hx350_8 := hx_ HB hx350_8
        have HR350_5 := Aside0.mk hi350_5
        have HC350_5 := Aside0.mk hl350_5
        clear hi350_5 hl350_5
        replace p350 := eq_true p350
        replace q350 := eq_true q350
        go_wp2_with (first | ((with_reducible refine gate_dst (N := 11) rfl ?_); refine bx_ (N := 11) #[.int .i64 0, .int .i64 0, .int .i64 0, .int .i64 0, .int .i64 0, .slice none 0 0, .int .i64 0, .int .i64 0, .int .i64 0] 40 ?_; intro gb351 hg w12 hbox hb; have BK351 := ak hbox; have GW351 := gy hg HB; have GE351 := gy hg HB; replace HB := bs HB hb; have NB349_351 := gm hg BK349; have NB351_349 := gn hg BK349; replace BK349 := kf BK349 hb; clear hb hbox hg; have hnb13 := NB351_349.out; have hnc13 := NB349_351.out; obtain ⟨_, _, _, _, _, _, _, _, _, _, _, _, _, _, _, _, _, _⟩ := bc9 BK351; obtain ⟨_, _, _, _, _, _⟩ := bc3 BK349) | ((with_reducible refine gate_callee (f := 16) rfl ?_); refine goesL_ (some 24) rfl rfl Try.func16 KR rfl #[.agg #[.int .i64 ((rd_T40 l0 x16_1).f0.f0), .int .i64 ((rd_T40 l0 x16_1).f0.f1), .int .i64 ((rd_T40 l0 x16_1).f0.f2)], .agg #[.int .i64 a1_0, .int .i64 a1_1, .int .i64 a1_2]] rfl AR ?_; (with_reducible refine (impl_DistanceOf.calls ((rd_T40 l0 x16_1).f0.f0) ((rd_T40 l0 x16_1).f0.f1) ((rd_T40 l0 x16_1).f0.f2) a1_0 a1_1 a1_2 t352 _ A9.out).mono ?_); rintro e w16 ⟨rfl, hb⟩; refine ⟨_, rfl, ?_⟩; replace BK349 := kf BK349 hb; replace BK351 := kp (cs' := #[.int .i64 ((rd_T40 l0 x16_1).f0.f0), .int .i64 ((rd_T40 l0 x16_1).f0.f1), .int .i64 ((rd_T40 l0 x16_1).f0.f2), .int .i64 ((rd_T40 l0 x16_1).f1), .int .i64 ((rd_T40 l0 x16_1).f2.f0), .slice A350_5 ((rd_T40 l0 x16_1).f2.f1).length c350_5, .int .i64 ((rd_T40 l0 x16_1).f2.f2.f0), .int .i64 ((rd_T40 l0 x16_1).f2.f2.f1), .int .i64 ((rd_T40 l0 x16_1).f2.f2.f2)]) BK351 hb; replace HB := bs HB hb; (try clear hb); (try clear hb2); (try clear hk); (try clear hi)))
        go_roundg k1
        case measure => have := HK1.out; omega
        case rel => exact ⟨(x16_1), (wrap64 (x16_1 + 1)), (by first | rfl | (simp; done) | (simp [*]; done)), (by first | rfl | (simp; done) | (simp [*]; done)), H', ⟨by have := HK1.out; omega⟩, ⟨PK BK349⟩, ⟨PB⟩⟩
       ·rw [if_neg c11] at H
        have c11b0 : decide (x9_1 < 0) = false := decide_eq_false c11
        clear c11
        replace H := Option.bind_eq_some_iff.mp H
        obtain ⟨t353, A170, H⟩ := H
        replace H : (if 0 ≤ x9_1 then (if x9_1 < (l0.length : Int) then ((impl_distance.f ((rd_T40 l0 x9_1).f1) a2).bind fun t355 => (if t353 < t355 then (impl_nearest.l0 k1 l0 a2 a3 x16_1 l0 (l0.length : Int) (wrap64 (x16_1 + 1)) a1_0 a1_1 a1_2) else (if t353 = t355 then (if ((rd_T40 l0 x16_1).f1) < ((rd_T40 l0 x9_1).f1) then (impl_nearest.l0 k1 l0 a2 a3 x16_1 l0 (l0.length : Int) (wrap64 (x16_1 + 1)) a1_0 a1_1 a1_2) else (impl_nearest.l0 k1 l0 a2 a3 x9_1 l0 (l0.length : Int) (wrap64 (x16_1 + 1)) a1_0 a1_1 a1_2)) else (impl_nearest.l0 k1 l0 a2 a3 x9_1 l0 (l0.length : Int) (wrap64 (x16_1 + 1)) a1_0 a1_1 a1_2)))) else (none)) else (none)) = some r := H
        have A17 := Aside0.mk A170
        clear A170
        by_cases c18 : 0 ≤ x9_1
        ·rw [if_pos c18] at H
         have c18b0 : decide (0 ≤ x9_1) = true := decide_eq_true c18
         clear c18
         by_cases c19 : x9_1 < (l0.length : Int)
         ·rw [if_pos c19] at H
          have c19b0 : decide (x9_1 < (l0.length : Int)) = true := decide_eq_true c19
          clear c19
          replace H := Option.bind_eq_some_iff.mp H
          obtain ⟨t355, A200, H⟩ := H
          replace H : (if t353 < t355 then (impl_nearest.l0 k1 l0 a2 a3 x16_1 l0 (l0.length : Int) (wrap64 (x16_1 + 1)) a1_0 a1_1 a1_2) else (if t353 = t355 then (if ((rd_T40 l0 x16_1).f1) < ((rd_T40 l0 x9_1).f1) then (impl_nearest.l0 k1 l0 a2 a3 x16_1 l0 (l0.length : Int) (wrap64 (x16_1 + 1)) a1_0 a1_1 a1_2) else (impl_nearest.l0 k1 l0 a2 a3 x9_1 l0 (l0.length : Int) (wrap64 (x16_1 + 1)) a1_0 a1_1 a1_2)) else (impl_nearest.l0 k1 l0 a2 a3 x9_1 l0 (l0.length : Int) (wrap64 (x16_1 + 1)) a1_0 a1_1 a1_2))) = some r := H
          have A20 := Aside0.mk A200
          clear A200
          by_cases c21 : t353 < t355
          ·rw [if_pos c21] at H
           have c21b0 : decide (t353 < t355) = true := decide_eq_true c21
           clear c21
           have H' := Aside0.mk H
           clear H
           have p350 : 0 ≤ (x16_1 : Int) := of_decide_eq_true (by first | (with_reducible assumption) | assumption)
           have q350 : x16_1 < (l0.length : Int) := of_decide_eq_true (by first | (with_reducible assumption) | assumption)
           obtain ⟨ad350, A350_5, c350_5, e350, hx350_0, hx350_1, hx350_2, hx350_3, hx350_4, hx350_5, hx350_6, hx350_7, hx350_8, hl350_5, hi350_5⟩ := at_T40 HR0.out x16_1 p350 q350
           cases e350
           replace hx350_0 := hx_ HB hx350_0
           replace hx350_1 := hx_ HB hx350_1
           replace hx350_2 := hx_ HB hx350_2
           replace hx350_3 := hx_ HB hx350_3
           replace hx350_4 := hx_ HB hx350_4
           replace hx350_5 := hx_ HB hx350_5
           replace hx350_6 := hx_ HB hx350_6
           replace hx350_7 := hx_ HB hx350_7
           replace hx350_8 := hx_ HB hx350_8
           have HR350_5 := Aside0.mk hi350_5
           have HC350_5 := Aside0.mk hl350_5
           clear hi350_5 hl350_5
           replace p350 := eq_true p350
           replace q350 := eq_true q350
           try go_wp2_with (first | ((with_reducible refine gate_dst (N := 11) rfl ?_); refine bx_ (N := 11) #[.int .i64 0, .int .i64 0, .int .i64 0, .int .i64 0, .int .i64 0, .slice none 0 0, .int .i64 0, .int .i64 0, .int .i64 0] 40 ?_; intro gb351 hg w22 hbox hb; have BK351 := ak hbox; have GW351 := gy hg HB; have GE351 := gy hg HB; replace HB := bs HB hb; have NB349_351 := gm hg BK349; have NB351_349 := gn hg BK349; replace BK349 := kf BK349 hb; clear hb hbox hg; have hnb23 := NB351_349.out; have hnc23 := NB349_351.out; obtain ⟨_, _, _, _, _, _, _, _, _, _, _, _, _, _, _, _, _, _⟩ := bc9 BK351; obtain ⟨_, _, _, _, _, _⟩ := bc3 BK349) | ((with_reducible refine gate_callee (f := 16) rfl ?_); refine goesL_ (some 24) rfl rfl Try.func16 KR rfl #[.agg #[.int .i64 ((rd_T40 l0 x16_1).f0.f0), .int .i64 ((rd_T40 l0 x16_1).f0.f1), .int .i64 ((rd_T40 l0 x16_1).f0.f2)], .agg #[.int .i64 a1_0, .int .i64 a1_1, .int .i64 a1_2]] rfl AR ?_; (with_reducible refine (impl_DistanceOf.calls ((rd_T40 l0 x16_1).f0.f0) ((rd_T40 l0 x16_1).f0.f1) ((rd_T40 l0 x16_1).f0.f2) a1_0 a1_1 a1_2 t352 _ A9.out).mono ?_); rintro e w26 ⟨rfl, hb⟩; refine ⟨_, rfl, ?_⟩; replace BK349 := kf BK349 hb; replace BK351 := kp (cs' := #[.int .i64 ((rd_T40 l0 x16_1).f0.f0), .int .i64 ((rd_T40 l0 x16_1).f0.f1), .int .i64 ((rd_T40 l0 x16_1).f0.f2), .int .i64 ((rd_T40 l0 x16_1).f1), .int .i64 ((rd_T40 l0 x16_1).f2.f0), .slice A350_5 ((rd_T40 l0 x16_1).f2.f1).length c350_5, .int .i64 ((rd_T40 l0 x16_1).f2.f2.f0), .int .i64 ((rd_T40 l0 x16_1).f2.f2.f1), .int .i64 ((rd_T40 l0 x16_1).f2.f2.f2)]) BK351 hb; replace HB := bs HB hb; (try clear hb); (try clear hb2); (try clear hk); (try clear hi)))
           replace BK349 := ak (blk_drew BK349.out)
           replace BK351 := ak (blk_drew BK351.out)
           replace HB := ak (below_drew1 HB.out)
           have p354 : 0 ≤ (x9_1 : Int) := of_decide_eq_true (by first | (with_reducible assumption) | assumption)
           have q354 : x9_1 < (l0.length : Int) := of_decide_eq_true (by first | (with_reducible assumption) | assumption)
           obtain ⟨ad354, A354_5, c354_5, e354, hx354_0, hx354_1, hx354_2, hx354_3, hx354_4, hx354_5, hx354_6, hx354_7, hx354_8, hl354_5, hi354_5⟩ := at_T40 HR0.out x9_1 p354 q354
           have hw354_8 := hx354_8
           have hw354_7 := hx354_7
           have hw354_6 := hx354_6
           have hw354_5 := hx354_5
           have hw354_4 := hx354_4
           have hw354_3 := hx354_3
           have hw354_2 := hx354_2
           have hw354_1 := hx354_1
           have hw354_0 := hx354_0
           obtain rfl : ad350 = ad354 := (by injection e354)
           replace hx354_0 := hx_ HB hx354_0
           replace hx354_1 := hx_ HB hx354_1
           replace hx354_2 := hx_ HB hx354_2
           replace hx354_3 := hx_ HB hx354_3
           replace hx354_4 := hx_ HB hx354_4
           replace hx354_5 := hx_ HB hx354_5
           replace hx354_6 := hx_ HB hx354_6
           replace hx354_7 := hx_ HB hx354_7
           replace hx354_8 := hx_ HB hx354_8
           have HR354_5 := Aside0.mk hi354_5
           have HC354_5 := Aside0.mk hl354_5
           clear hi354_5 hl354_5
           replace p354 := eq_true p354
           replace q354 := eq_true q354
           refine start_ (n := 13) (S := fun w' => w'.cell? ⟨gb351, 0, none⟩ = some (.int .i64 ((rd_T40 l0 x16_1).f0.f0)) ∧ w'.cell? ⟨gb351, 1, none⟩ = some (.int .i64 ((rd_T40 l0 x16_1).f0.f1)) ∧ w'.cell? ⟨gb351, 2, none⟩ = some (.int .i64 ((rd_T40 l0 x16_1).f0.f2)) ∧ w'.cell? ⟨gb351, 3, none⟩ = some (.int .i64 ((rd_T40 l0 x16_1).f1)) ∧ w'.cell? ⟨gb351, 4, none⟩ = some (.int .i64 ((rd_T40 l0 x16_1).f2.f0)) ∧ w'.cell? ⟨gb351, 5, none⟩ = some (.slice A350_5 ((rd_T40 l0 x16_1).f2.f1).length c350_5) ∧ w'.cell? ⟨gb351, 6, none⟩ = some (.int .i64 ((rd_T40 l0 x16_1).f2.f2.f0)) ∧ w'.cell? ⟨gb351, 7, none⟩ = some (.int .i64 ((rd_T40 l0 x16_1).f2.f2.f1)) ∧ w'.cell? ⟨gb351, 8, none⟩ = some (.int .i64 ((rd_T40 l0 x16_1).f2.f2.f2)) ∧ w'.cell? (ad350.add ((x9_1).toNat * 9)) = some (.int .i64 ((rd_T40 l0 x9_1).f0.f0)) ∧ w'.cell? ⟨(ad350.add ((x9_1).toNat * 9)).block, (ad350.add ((x9_1).toNat * 9)).off + 1, none⟩ = some (.int .i64 ((rd_T40 l0 x9_1).f0.f1)) ∧ w'.cell? ⟨(ad350.add ((x9_1).toNat * 9)).block, (ad350.add ((x9_1).toNat * 9)).off + 2, none⟩ = some (.int .i64 ((rd_T40 l0 x9_1).f0.f2)) ∧ w'.cell? ⟨(ad350.add ((x9_1).toNat * 9)).block, (ad350.add ((x9_1).toNat * 9)).off + 3, none⟩ = some (.int .i64 ((rd_T40 l0 x9_1).f1)) ∧ w'.cell? ⟨(ad350.add ((x9_1).toNat * 9)).block, (ad350.add ((x9_1).toNat * 9)).off + 4, none⟩ = some (.int .i64 ((rd_T40 l0 x9_1).f2.f0)) ∧ w'.cell? ⟨(ad350.add ((x9_1).toNat * 9)).block, (ad350.add ((x9_1).toNat * 9)).off + 5, none⟩ = some (.slice A354_5 ((rd_T40 l0 x9_1).f2.f1).length c354_5) ∧ w'.cell? ⟨(ad350.add ((x9_1).toNat * 9)).block, (ad350.add ((x9_1).toNat * 9)).off + 6, none⟩ = some (.int .i64 ((rd_T40 l0 x9_1).f2.f2.f0)) ∧ w'.cell? ⟨(ad350.add ((x9_1).toNat * 9)).block, (ad350.add ((x9_1).toNat * 9)).off + 7, none⟩ = some (.int .i64 ((rd_T40 l0 x9_1).f2.f2.f1)) ∧ w'.cell? ⟨(ad350.add ((x9_1).toNat * 9)).block, (ad350.add ((x9_1).toNat * 9)).off + 8, none⟩ = some (.int .i64 ((rd_T40 l0 x9_1).f2.f2.f2))) (ds := []) b6_13 KR rfl rfl ⟨(blk_cell BK351.out 0).trans rfl, (blk_cell BK351.out 1).trans rfl, (blk_cell BK351.out 2).trans rfl, (blk_cell BK351.out 3).trans rfl, (blk_cell BK351.out 4).trans rfl, (blk_cell BK351.out 5).trans rfl, (blk_cell BK351.out 6).trans rfl, (blk_cell BK351.out 7).trans rfl, (blk_cell BK351.out 8).trans rfl, ((HB.out.cell (World.block_lt_of_cell? w _ hw354_0)).trans hw354_0), ((HB.out.cell (World.block_lt_of_cell? w _ hw354_1)).trans hw354_1), ((HB.out.cell (World.block_lt_of_cell? w _ hw354_2)).trans hw354_2), ((HB.out.cell (World.block_lt_of_cell? w _ hw354_3)).trans hw354_3), ((HB.out.cell (World.block_lt_of_cell? w _ hw354_4)).trans hw354_4), ((HB.out.cell (World.block_lt_of_cell? w _ hw354_5)).trans hw354_5), ((HB.out.cell (World.block_lt_of_cell? w _ hw354_6)).trans hw354_6), ((HB.out.cell (World.block_lt_of_cell? w _ hw354_7)).trans hw354_7), ((HB.out.cell (World.block_lt_of_cell? w _ hw354_8)).trans hw354_8)⟩ (fun hHeld => ?_); refine with_tabW impl_nearest.tab8 impl_nearest.bits8 (fun HT_ HW_ => ?_)
           generalize w26.drew = w27 at BK349 BK351 HB HR354_5 hx354_0 hx354_1 hx354_2 hx354_3 hx354_4 hx354_5 hx354_6 hx354_7 hx354_8 hHeld ⊢
           refine pu_ (i := 0) (N := some 30) b6_12 HT_ ?_
           refine pu_ (i := 2) (N := some 32) b6_11 HT_ ?_
           refine pu_ (i := 4) (N := some 34) b6_10 HT_ ?_
           refine pu_ (i := 5) (N := some 35) b6_9 HT_ ?_
           refine pu_ (i := 6) (N := some 36) b6_8 HT_ ?_
           refine pu_ (i := 7) (N := some 37) b6_7 HT_ ?_
           refine pu_ (i := 9) (N := some 39) b6_6 HT_ ?_
           refine tk_ (i := 1) (N := some 31) b6_5 rfl rfl HT_ HW_ hHeld ?_
           refine take_ (i := 8) (N := some 38) (v := ?_) (a' := ?_) b6_4 rfl rfl (take_ofW HT_.out HW_.out KR) (fun _ _ _ h => h) (Or.inl ⟨by rfl, ?_⟩) hHeld ?_ ?_
           rotate_left
           ·rintro w' ⟨s0, s1, s2, s3, s4, s5, s6, s7, s8, s9, s10, s11, s12, s13, s14, s15, s16, s17⟩
            go_simp
            with_reducible rfl
           rotate_left
           ·simp only [Act.put, List.setIfInBounds_toArray, List.set_cons_zero, List.set_cons_succ, i64_w, i32_w]
            rfl
           refine one_ (i := 3) (N := some 33) b6_3 rfl rfl (one_of HT_.out KR) (by decide) (fun K hK => ?_)
           refine goes_ Try.func74 KR rfl #[.int .i64 ((rd_T40 l0 x16_1).f1), .int .i64 a2] (by rfl) rfl rfl AR ?_
           with_reducible refine (impl_distance.calls ((rd_T40 l0 x16_1).f1) a2 t353 _ A17.out).mono ?_
           rintro e w28 ⟨rfl, hb⟩
           refine ⟨_, rfl, ?_⟩
           replace BK349 := kf BK349 hb
           replace BK351 := kf BK351 hb
           replace HB := bs HB hb
           (try clear hb)
           (try clear hb2)
           (try clear hk)
           (try clear hi)
           refine hK.out _ _ ⟨(blk_cell BK351.out 0).trans rfl, (blk_cell BK351.out 1).trans rfl, (blk_cell BK351.out 2).trans rfl, (blk_cell BK351.out 3).trans rfl, (blk_cell BK351.out 4).trans rfl, (blk_cell BK351.out 5).trans rfl, (blk_cell BK351.out 6).trans rfl, (blk_cell BK351.out 7).trans rfl, (blk_cell BK351.out 8).trans rfl, ((HB.out.cell (World.block_lt_of_cell? w _ hw354_0)).trans hw354_0), ((HB.out.cell (World.block_lt_of_cell? w _ hw354_1)).trans hw354_1), ((HB.out.cell (World.block_lt_of_cell? w _ hw354_2)).trans hw354_2), ((HB.out.cell (World.block_lt_of_cell? w _ hw354_3)).trans hw354_3), ((HB.out.cell (World.block_lt_of_cell? w _ hw354_4)).trans hw354_4), ((HB.out.cell (World.block_lt_of_cell? w _ hw354_5)).trans hw354_5), ((HB.out.cell (World.block_lt_of_cell? w _ hw354_6)).trans hw354_6), ((HB.out.cell (World.block_lt_of_cell? w _ hw354_7)).trans hw354_7), ((HB.out.cell (World.block_lt_of_cell? w _ hw354_8)).trans hw354_8)⟩ (fun hHeld => ?_)
           clear hK K
           refine norm_ (a' := ?_) ?_ ?_
           rotate_left
           ·show Act.put _ (some 33) _ = _
            simp only [Act.put, List.setIfInBounds_toArray, List.set_cons_zero, List.set_cons_succ, i64_w, i32_w]
            rfl
           refine one_ (i := 10) (N := some 40) b6_2 rfl rfl (one_of HT_.out KR) (by decide) (fun K hK => ?_)
           refine goes_ Try.func74 KR rfl #[.int .i64 ((rd_T40 l0 x9_1).f1), .int .i64 a2] (by rfl) rfl rfl AR ?_
           with_reducible refine (impl_distance.calls ((rd_T40 l0 x9_1).f1) a2 t355 _ A20.out).mono ?_
           rintro e w29 ⟨rfl, hb⟩
           refine ⟨_, rfl, ?_⟩
           replace BK349 := kf BK349 hb
           replace BK351 := kf BK351 hb
           replace HB := bs HB hb
           (try clear hb)
           (try clear hb2)
           (try clear hk)
           (try clear hi)
           refine hK.out _ _ ⟨(blk_cell BK351.out 0).trans rfl, (blk_cell BK351.out 1).trans rfl, (blk_cell BK351.out 2).trans rfl, (blk_cell BK351.out 3).trans rfl, (blk_cell BK351.out 4).trans rfl, (blk_cell BK351.out 5).trans rfl, (blk_cell BK351.out 6).trans rfl, (blk_cell BK351.out 7).trans rfl, (blk_cell BK351.out 8).trans rfl, ((HB.out.cell (World.block_lt_of_cell? w _ hw354_0)).trans hw354_0), ((HB.out.cell (World.block_lt_of_cell? w _ hw354_1)).trans hw354_1), ((HB.out.cell (World.block_lt_of_cell? w _ hw354_2)).trans hw354_2), ((HB.out.cell (World.block_lt_of_cell? w _ hw354_3)).trans hw354_3), ((HB.out.cell (World.block_lt_of_cell? w _ hw354_4)).trans hw354_4), ((HB.out.cell (World.block_lt_of_cell? w _ hw354_5)).trans hw354_5), ((HB.out.cell (World.block_lt_of_cell? w _ hw354_6)).trans hw354_6), ((HB.out.cell (World.block_lt_of_cell? w _ hw354_7)).trans hw354_7), ((HB.out.cell (World.block_lt_of_cell? w _ hw354_8)).trans hw354_8)⟩ (fun hHeld => ?_)
           clear hK K
           refine norm_ (a' := ?_) ?_ ?_
           rotate_left
           ·show Act.put _ (some 40) _ = _
            simp only [Act.put, List.setIfInBounds_toArray, List.set_cons_zero, List.set_cons_succ, i64_w, i32_w]
            rfl
           refine pu_ (i := 11) (N := some 12) b6_1 HT_ ?_
           refine pu_ (i := 12) (N := some 13) b6_0 HT_ ?_
           refine done_ (done_of HT_.out KR) ?_
           try go_wp2
           replace BK349 := ak (blk_drew BK349.out)
           replace BK351 := ak (blk_drew BK351.out)
           replace HB := ak (below_drew1 HB.out)
           refine start_ (n := 18) (S := fun w' => True) (ds := []) b6_36 KR rfl rfl trivial (fun hHeld => ?_); refine with_tabW impl_nearest.tab9 impl_nearest.bits9 (fun HT_ HW_ => ?_)
           generalize w29.drew = w30 at BK349 BK351 HB hHeld ⊢
           refine pu_ (i := 0) (N := some 41) b6_35 HT_ ?_
           refine pu_ (i := 1) (N := some 42) b6_34 HT_ ?_
           refine pu_ (i := 2) (N := some 43) b6_33 HT_ ?_
           refine pu_ (i := 3) (N := some 44) b6_32 HT_ ?_
           refine un_ (i := 4) (N := some 45) b6_31 HT_ ?_
           refine un_ (i := 5) (N := some 46) b6_30 HT_ ?_
           refine un_ (i := 6) (N := some 47) b6_29 HT_ ?_
           refine un_ (i := 7) (N := some 48) b6_28 HT_ ?_
           refine un_ (i := 8) (N := some 49) b6_27 HT_ ?_
           refine un_ (i := 9) (N := some 50) b6_26 HT_ ?_
           refine un_ (i := 10) (N := some 51) b6_24 HT_ ?_
           refine un_ (i := 11) (N := some 52) b6_22 HT_ ?_
           refine un_ (i := 12) (N := some 53) b6_20 HT_ ?_
           refine un_ (i := 13) (N := some 54) b6_18 HT_ ?_
           refine un_ (i := 14) (N := some 55) b6_17 HT_ ?_
           refine un_ (i := 15) (N := some 56) b6_16 HT_ ?_
           refine un_ (i := 16) (N := some 57) b6_15 HT_ ?_
           refine pu_ (i := 17) (N := some 58) b6_14 HT_ ?_
           refine done_ (done_of HT_.out KR) ?_
           try go_wp2
           go_roundg k1
           case measure => have := HK1.out; omega
           case rel => exact ⟨(x16_1), (wrap64 (x16_1 + 1)), (by first | rfl | (simp; done) | (simp [*]; done)), (by first | rfl | (simp; done) | (simp [*]; done)), H', ⟨by have := HK1.out; omega⟩, ⟨PK BK349⟩, ⟨PB⟩⟩
          ·rw [if_neg c21] at H
           have c21b0 : decide (t353 < t355) = false := decide_eq_false c21
           clear c21
           by_cases c31 : t353 = t355
           ·rw [if_pos c31] at H
            have c31b0 : (t353 == t355) = true := beq_iff_eq.mpr c31
            have c31b1 : (t353 != t355) = false := bne_eq_false_iff_eq.mpr c31
            clear c31
            by_cases c32 : ((rd_T40 l0 x16_1).f1) < ((rd_T40 l0 x9_1).f1)
            ·rw [if_pos c32] at H
             have c32b0 : decide (((rd_T40 l0 x16_1).f1) < ((rd_T40 l0 x9_1).f1)) = true := decide_eq_true c32
             clear c32
             have H' := Aside0.mk H
             clear H
             have p350 : 0 ≤ (x16_1 : Int) := of_decide_eq_true (by first | (with_reducible assumption) | assumption)
             have q350 : x16_1 < (l0.length : Int) := of_decide_eq_true (by first | (with_reducible assumption) | assumption)
             obtain ⟨ad350, A350_5, c350_5, e350, hx350_0, hx350_1, hx350_2, hx350_3, hx350_4, hx350_5, hx350_6, hx350_7, hx350_8, hl350_5, hi350_5⟩ := at_T40 HR0.out x16_1 p350 q350
             cases e350
             replace hx350_0 := hx_ HB hx350_0
             replace hx350_1 := hx_ HB hx350_1
             replace hx350_2 := hx_ HB hx350_2
             replace hx350_3 := hx_ HB hx350_3
             replace hx350_4 := hx_ HB hx350_4
             replace hx350_5 := hx_ HB hx350_5
             replace hx350_6 := hx_ HB hx350_6
             replace hx350_7 := hx_ HB hx350_7
             replace hx350_8 := hx_ HB hx350_8
             have HR350_5 := Aside0.mk hi350_5
             have HC350_5 := Aside0.mk hl350_5
             clear hi350_5 hl350_5
             replace p350 := eq_true p350
             replace q350 := eq_true q350
             try go_wp2_with (first | ((with_reducible refine gate_dst (N := 11) rfl ?_); refine bx_ (N := 11) #[.int .i64 0, .int .i64 0, .int .i64 0, .int .i64 0, .int .i64 0, .slice none 0 0, .int .i64 0, .int .i64 0, .int .i64 0] 40 ?_; intro gb351 hg w33 hbox hb; have BK351 := ak hbox; have GW351 := gy hg HB; have GE351 := gy hg HB; replace HB := bs HB hb; have NB349_351 := gm hg BK349; have NB351_349 := gn hg BK349; replace BK349 := kf BK349 hb; clear hb hbox hg; have hnb34 := NB351_349.out; have hnc34 := NB349_351.out; obtain ⟨_, _, _, _, _, _, _, _, _, _, _, _, _, _, _, _, _, _⟩ := bc9 BK351; obtain ⟨_, _, _, _, _, _⟩ := bc3 BK349) | ((with_reducible refine gate_callee (f := 16) rfl ?_); refine goesL_ (some 24) rfl rfl Try.func16 KR rfl #[.agg #[.int .i64 ((rd_T40 l0 x16_1).f0.f0), .int .i64 ((rd_T40 l0 x16_1).f0.f1), .int .i64 ((rd_T40 l0 x16_1).f0.f2)], .agg #[.int .i64 a1_0, .int .i64 a1_1, .int .i64 a1_2]] rfl AR ?_; (with_reducible refine (impl_DistanceOf.calls ((rd_T40 l0 x16_1).f0.f0) ((rd_T40 l0 x16_1).f0.f1) ((rd_T40 l0 x16_1).f0.f2) a1_0 a1_1 a1_2 t352 _ A9.out).mono ?_); rintro e w37 ⟨rfl, hb⟩; refine ⟨_, rfl, ?_⟩; replace BK349 := kf BK349 hb; replace BK351 := kp (cs' := #[.int .i64 ((rd_T40 l0 x16_1).f0.f0), .int .i64 ((rd_T40 l0 x16_1).f0.f1), .int .i64 ((rd_T40 l0 x16_1).f0.f2), .int .i64 ((rd_T40 l0 x16_1).f1), .int .i64 ((rd_T40 l0 x16_1).f2.f0), .slice A350_5 ((rd_T40 l0 x16_1).f2.f1).length c350_5, .int .i64 ((rd_T40 l0 x16_1).f2.f2.f0), .int .i64 ((rd_T40 l0 x16_1).f2.f2.f1), .int .i64 ((rd_T40 l0 x16_1).f2.f2.f2)]) BK351 hb; replace HB := bs HB hb; (try clear hb); (try clear hb2); (try clear hk); (try clear hi)))
             replace BK349 := ak (blk_drew BK349.out)
             replace BK351 := ak (blk_drew BK351.out)
             replace HB := ak (below_drew1 HB.out)
             have p354 : 0 ≤ (x9_1 : Int) := of_decide_eq_true (by first | (with_reducible assumption) | assumption)
             have q354 : x9_1 < (l0.length : Int) := of_decide_eq_true (by first | (with_reducible assumption) | assumption)
             obtain ⟨ad354, A354_5, c354_5, e354, hx354_0, hx354_1, hx354_2, hx354_3, hx354_4, hx354_5, hx354_6, hx354_7, hx354_8, hl354_5, hi354_5⟩ := at_T40 HR0.out x9_1 p354 q354
             have hw354_8 := hx354_8
             have hw354_7 := hx354_7
             have hw354_6 := hx354_6
             have hw354_5 := hx354_5
             have hw354_4 := hx354_4
             have hw354_3 := hx354_3
             have hw354_2 := hx354_2
             have hw354_1 := hx354_1
             have hw354_0 := hx354_0
             obtain rfl : ad350 = ad354 := (by injection e354)
             replace hx354_0 := hx_ HB hx354_0
             replace hx354_1 := hx_ HB hx354_1
             replace hx354_2 := hx_ HB hx354_2
             replace hx354_3 := hx_ HB hx354_3
             replace hx354_4 := hx_ HB hx354_4
             replace hx354_5 := hx_ HB hx354_5
             replace hx354_6 := hx_ HB hx354_6
             replace hx354_7 := hx_ HB hx354_7
             replace hx354_8 := hx_ HB hx354_8
             have HR354_5 := Aside0.mk hi354_5
             have HC354_5 := Aside0.mk hl354_5
             clear hi354_5 hl354_5
             replace p354 := eq_true p354
             replace q354 := eq_true q354
             refine start_ (n := 13) (S := fun w' => w'.cell? ⟨gb351, 0, none⟩ = some (.int .i64 ((rd_T40 l0 x16_1).f0.f0)) ∧ w'.cell? ⟨gb351, 1, none⟩ = some (.int .i64 ((rd_T40 l0 x16_1).f0.f1)) ∧ w'.cell? ⟨gb351, 2, none⟩ = some (.int .i64 ((rd_T40 l0 x16_1).f0.f2)) ∧ w'.cell? ⟨gb351, 3, none⟩ = some (.int .i64 ((rd_T40 l0 x16_1).f1)) ∧ w'.cell? ⟨gb351, 4, none⟩ = some (.int .i64 ((rd_T40 l0 x16_1).f2.f0)) ∧ w'.cell? ⟨gb351, 5, none⟩ = some (.slice A350_5 ((rd_T40 l0 x16_1).f2.f1).length c350_5) ∧ w'.cell? ⟨gb351, 6, none⟩ = some (.int .i64 ((rd_T40 l0 x16_1).f2.f2.f0)) ∧ w'.cell? ⟨gb351, 7, none⟩ = some (.int .i64 ((rd_T40 l0 x16_1).f2.f2.f1)) ∧ w'.cell? ⟨gb351, 8, none⟩ = some (.int .i64 ((rd_T40 l0 x16_1).f2.f2.f2)) ∧ w'.cell? (ad350.add ((x9_1).toNat * 9)) = some (.int .i64 ((rd_T40 l0 x9_1).f0.f0)) ∧ w'.cell? ⟨(ad350.add ((x9_1).toNat * 9)).block, (ad350.add ((x9_1).toNat * 9)).off + 1, none⟩ = some (.int .i64 ((rd_T40 l0 x9_1).f0.f1)) ∧ w'.cell? ⟨(ad350.add ((x9_1).toNat * 9)).block, (ad350.add ((x9_1).toNat * 9)).off + 2, none⟩ = some (.int .i64 ((rd_T40 l0 x9_1).f0.f2)) ∧ w'.cell? ⟨(ad350.add ((x9_1).toNat * 9)).block, (ad350.add ((x9_1).toNat * 9)).off + 3, none⟩ = some (.int .i64 ((rd_T40 l0 x9_1).f1)) ∧ w'.cell? ⟨(ad350.add ((x9_1).toNat * 9)).block, (ad350.add ((x9_1).toNat * 9)).off + 4, none⟩ = some (.int .i64 ((rd_T40 l0 x9_1).f2.f0)) ∧ w'.cell? ⟨(ad350.add ((x9_1).toNat * 9)).block, (ad350.add ((x9_1).toNat * 9)).off + 5, none⟩ = some (.slice A354_5 ((rd_T40 l0 x9_1).f2.f1).length c354_5) ∧ w'.cell? ⟨(ad350.add ((x9_1).toNat * 9)).block, (ad350.add ((x9_1).toNat * 9)).off + 6, none⟩ = some (.int .i64 ((rd_T40 l0 x9_1).f2.f2.f0)) ∧ w'.cell? ⟨(ad350.add ((x9_1).toNat * 9)).block, (ad350.add ((x9_1).toNat * 9)).off + 7, none⟩ = some (.int .i64 ((rd_T40 l0 x9_1).f2.f2.f1)) ∧ w'.cell? ⟨(ad350.add ((x9_1).toNat * 9)).block, (ad350.add ((x9_1).toNat * 9)).off + 8, none⟩ = some (.int .i64 ((rd_T40 l0 x9_1).f2.f2.f2))) (ds := []) b6_13 KR rfl rfl ⟨(blk_cell BK351.out 0).trans rfl, (blk_cell BK351.out 1).trans rfl, (blk_cell BK351.out 2).trans rfl, (blk_cell BK351.out 3).trans rfl, (blk_cell BK351.out 4).trans rfl, (blk_cell BK351.out 5).trans rfl, (blk_cell BK351.out 6).trans rfl, (blk_cell BK351.out 7).trans rfl, (blk_cell BK351.out 8).trans rfl, ((HB.out.cell (World.block_lt_of_cell? w _ hw354_0)).trans hw354_0), ((HB.out.cell (World.block_lt_of_cell? w _ hw354_1)).trans hw354_1), ((HB.out.cell (World.block_lt_of_cell? w _ hw354_2)).trans hw354_2), ((HB.out.cell (World.block_lt_of_cell? w _ hw354_3)).trans hw354_3), ((HB.out.cell (World.block_lt_of_cell? w _ hw354_4)).trans hw354_4), ((HB.out.cell (World.block_lt_of_cell? w _ hw354_5)).trans hw354_5), ((HB.out.cell (World.block_lt_of_cell? w _ hw354_6)).trans hw354_6), ((HB.out.cell (World.block_lt_of_cell? w _ hw354_7)).trans hw354_7), ((HB.out.cell (World.block_lt_of_cell? w _ hw354_8)).trans hw354_8)⟩ (fun hHeld => ?_); refine with_tabW impl_nearest.tab8 impl_nearest.bits8 (fun HT_ HW_ => ?_)
             generalize w37.drew = w38 at BK349 BK351 HB HR354_5 hx354_0 hx354_1 hx354_2 hx354_3 hx354_4 hx354_5 hx354_6 hx354_7 hx354_8 hHeld ⊢
             refine pu_ (i := 0) (N := some 30) b6_12 HT_ ?_
             refine pu_ (i := 2) (N := some 32) b6_11 HT_ ?_
             refine pu_ (i := 4) (N := some 34) b6_10 HT_ ?_
             refine pu_ (i := 5) (N := some 35) b6_9 HT_ ?_
             refine pu_ (i := 6) (N := some 36) b6_8 HT_ ?_
             refine pu_ (i := 7) (N := some 37) b6_7 HT_ ?_
             refine pu_ (i := 9) (N := some 39) b6_6 HT_ ?_
             refine tk_ (i := 1) (N := some 31) b6_5 rfl rfl HT_ HW_ hHeld ?_
             refine take_ (i := 8) (N := some 38) (v := ?_) (a' := ?_) b6_4 rfl rfl (take_ofW HT_.out HW_.out KR) (fun _ _ _ h => h) (Or.inl ⟨by rfl, ?_⟩) hHeld ?_ ?_
             rotate_left
             ·rintro w' ⟨s0, s1, s2, s3, s4, s5, s6, s7, s8, s9, s10, s11, s12, s13, s14, s15, s16, s17⟩
              go_simp
              with_reducible rfl
             rotate_left
             ·simp only [Act.put, List.setIfInBounds_toArray, List.set_cons_zero, List.set_cons_succ, i64_w, i32_w]
              rfl
             refine one_ (i := 3) (N := some 33) b6_3 rfl rfl (one_of HT_.out KR) (by decide) (fun K hK => ?_)
             refine goes_ Try.func74 KR rfl #[.int .i64 ((rd_T40 l0 x16_1).f1), .int .i64 a2] (by rfl) rfl rfl AR ?_
             with_reducible refine (impl_distance.calls ((rd_T40 l0 x16_1).f1) a2 t353 _ A17.out).mono ?_
             rintro e w39 ⟨rfl, hb⟩
             refine ⟨_, rfl, ?_⟩
             replace BK349 := kf BK349 hb
             replace BK351 := kf BK351 hb
             replace HB := bs HB hb
             (try clear hb)
             (try clear hb2)
             (try clear hk)
             (try clear hi)
             refine hK.out _ _ ⟨(blk_cell BK351.out 0).trans rfl, (blk_cell BK351.out 1).trans rfl, (blk_cell BK351.out 2).trans rfl, (blk_cell BK351.out 3).trans rfl, (blk_cell BK351.out 4).trans rfl, (blk_cell BK351.out 5).trans rfl, (blk_cell BK351.out 6).trans rfl, (blk_cell BK351.out 7).trans rfl, (blk_cell BK351.out 8).trans rfl, ((HB.out.cell (World.block_lt_of_cell? w _ hw354_0)).trans hw354_0), ((HB.out.cell (World.block_lt_of_cell? w _ hw354_1)).trans hw354_1), ((HB.out.cell (World.block_lt_of_cell? w _ hw354_2)).trans hw354_2), ((HB.out.cell (World.block_lt_of_cell? w _ hw354_3)).trans hw354_3), ((HB.out.cell (World.block_lt_of_cell? w _ hw354_4)).trans hw354_4), ((HB.out.cell (World.block_lt_of_cell? w _ hw354_5)).trans hw354_5), ((HB.out.cell (World.block_lt_of_cell? w _ hw354_6)).trans hw354_6), ((HB.out.cell (World.block_lt_of_cell? w _ hw354_7)).trans hw354_7), ((HB.out.cell (World.block_lt_of_cell? w _ hw354_8)).trans hw354_8)⟩ (fun hHeld => ?_)
             clear hK K
             refine norm_ (a' := ?_) ?_ ?_
             rotate_left
             ·show Act.put _ (some 33) _ = _
              simp only [Act.put, List.setIfInBounds_toArray, List.set_cons_zero, List.set_cons_succ, i64_w, i32_w]
              rfl
             refine one_ (i := 10) (N := some 40) b6_2 rfl rfl (one_of HT_.out KR) (by decide) (fun K hK => ?_)
             refine goes_ Try.func74 KR rfl #[.int .i64 ((rd_T40 l0 x9_1).f1), .int .i64 a2] (by rfl) rfl rfl AR ?_
             with_reducible refine (impl_distance.calls ((rd_T40 l0 x9_1).f1) a2 t355 _ A20.out).mono ?_
             rintro e w40 ⟨rfl, hb⟩
             refine ⟨_, rfl, ?_⟩
             replace BK349 := kf BK349 hb
             replace BK351 := kf BK351 hb
             replace HB := bs HB hb
             (try clear hb)
             (try clear hb2)
             (try clear hk)
             (try clear hi)
             refine hK.out _ _ ⟨(blk_cell BK351.out 0).trans rfl, (blk_cell BK351.out 1).trans rfl, (blk_cell BK351.out 2).trans rfl, (blk_cell BK351.out 3).trans rfl, (blk_cell BK351.out 4).trans rfl, (blk_cell BK351.out 5).trans rfl, (blk_cell BK351.out 6).trans rfl, (blk_cell BK351.out 7).trans rfl, (blk_cell BK351.out 8).trans rfl, ((HB.out.cell (World.block_lt_of_cell? w _ hw354_0)).trans hw354_0), ((HB.out.cell (World.block_lt_of_cell? w _ hw354_1)).trans hw354_1), ((HB.out.cell (World.block_lt_of_cell? w _ hw354_2)).trans hw354_2), ((HB.out.cell (World.block_lt_of_cell? w _ hw354_3)).trans hw354_3), ((HB.out.cell (World.block_lt_of_cell? w _ hw354_4)).trans hw354_4), ((HB.out.cell (World.block_lt_of_cell? w _ hw354_5)).trans hw354_5), ((HB.out.cell (World.block_lt_of_cell? w _ hw354_6)).trans hw354_6), ((HB.out.cell (World.block_lt_of_cell? w _ hw354_7)).trans hw354_7), ((HB.out.cell (World.block_lt_of_cell? w _ hw354_8)).trans hw354_8)⟩ (fun hHeld => ?_)
             clear hK K
             refine norm_ (a' := ?_) ?_ ?_
             rotate_left
             ·show Act.put _ (some 40) _ = _
              simp only [Act.put, List.setIfInBounds_toArray, List.set_cons_zero, List.set_cons_succ, i64_w, i32_w]
              rfl
             refine pu_ (i := 11) (N := some 12) b6_1 HT_ ?_
             refine pu_ (i := 12) (N := some 13) b6_0 HT_ ?_
             refine done_ (done_of HT_.out KR) ?_
             try go_wp2
             replace BK349 := ak (blk_drew BK349.out)
             replace BK351 := ak (blk_drew BK351.out)
             replace HB := ak (below_drew1 HB.out)
             have p356 : 0 ≤ (x9_1 : Int) := of_decide_eq_true (by first | (with_reducible assumption) | assumption)
             have q356 : x9_1 < (l0.length : Int) := of_decide_eq_true (by first | (with_reducible assumption) | assumption)
             obtain ⟨ad356, A356_5, c356_5, e356, hx356_0, hx356_1, hx356_2, hx356_3, hx356_4, hx356_5, hx356_6, hx356_7, hx356_8, hl356_5, hi356_5⟩ := at_T40 HR0.out x9_1 p356 q356
             have hw356_8 := hx356_8
             have hw356_7 := hx356_7
             have hw356_6 := hx356_6
             have hw356_5 := hx356_5
             have hw356_4 := hx356_4
             have hw356_3 := hx356_3
             have hw356_2 := hx356_2
             have hw356_1 := hx356_1
             have hw356_0 := hx356_0
             obtain rfl : ad350 = ad356 := (by injection e356)
             replace hx356_0 := hx_ HB hx356_0
             replace hx356_1 := hx_ HB hx356_1
             replace hx356_2 := hx_ HB hx356_2
             replace hx356_3 := hx_ HB hx356_3
             replace hx356_4 := hx_ HB hx356_4
             replace hx356_5 := hx_ HB hx356_5
             replace hx356_6 := hx_ HB hx356_6
             replace hx356_7 := hx_ HB hx356_7
             replace hx356_8 := hx_ HB hx356_8
             have HR356_5 := Aside0.mk hi356_5
             have HC356_5 := Aside0.mk hl356_5
             clear hi356_5 hl356_5
             replace p356 := eq_true p356
             replace q356 := eq_true q356
             refine start_ (n := 18) (S := fun w' => w'.cell? ⟨gb351, 0, none⟩ = some (.int .i64 ((rd_T40 l0 x16_1).f0.f0)) ∧ w'.cell? ⟨gb351, 1, none⟩ = some (.int .i64 ((rd_T40 l0 x16_1).f0.f1)) ∧ w'.cell? ⟨gb351, 2, none⟩ = some (.int .i64 ((rd_T40 l0 x16_1).f0.f2)) ∧ w'.cell? ⟨gb351, 3, none⟩ = some (.int .i64 ((rd_T40 l0 x16_1).f1)) ∧ w'.cell? ⟨gb351, 4, none⟩ = some (.int .i64 ((rd_T40 l0 x16_1).f2.f0)) ∧ w'.cell? ⟨gb351, 5, none⟩ = some (.slice A350_5 ((rd_T40 l0 x16_1).f2.f1).length c350_5) ∧ w'.cell? ⟨gb351, 6, none⟩ = some (.int .i64 ((rd_T40 l0 x16_1).f2.f2.f0)) ∧ w'.cell? ⟨gb351, 7, none⟩ = some (.int .i64 ((rd_T40 l0 x16_1).f2.f2.f1)) ∧ w'.cell? ⟨gb351, 8, none⟩ = some (.int .i64 ((rd_T40 l0 x16_1).f2.f2.f2)) ∧ w'.cell? (ad350.add ((x9_1).toNat * 9)) = some (.int .i64 ((rd_T40 l0 x9_1).f0.f0)) ∧ w'.cell? ⟨(ad350.add ((x9_1).toNat * 9)).block, (ad350.add ((x9_1).toNat * 9)).off + 1, none⟩ = some (.int .i64 ((rd_T40 l0 x9_1).f0.f1)) ∧ w'.cell? ⟨(ad350.add ((x9_1).toNat * 9)).block, (ad350.add ((x9_1).toNat * 9)).off + 2, none⟩ = some (.int .i64 ((rd_T40 l0 x9_1).f0.f2)) ∧ w'.cell? ⟨(ad350.add ((x9_1).toNat * 9)).block, (ad350.add ((x9_1).toNat * 9)).off + 3, none⟩ = some (.int .i64 ((rd_T40 l0 x9_1).f1)) ∧ w'.cell? ⟨(ad350.add ((x9_1).toNat * 9)).block, (ad350.add ((x9_1).toNat * 9)).off + 4, none⟩ = some (.int .i64 ((rd_T40 l0 x9_1).f2.f0)) ∧ w'.cell? ⟨(ad350.add ((x9_1).toNat * 9)).block, (ad350.add ((x9_1).toNat * 9)).off + 5, none⟩ = some (.slice A356_5 ((rd_T40 l0 x9_1).f2.f1).length c356_5) ∧ w'.cell? ⟨(ad350.add ((x9_1).toNat * 9)).block, (ad350.add ((x9_1).toNat * 9)).off + 6, none⟩ = some (.int .i64 ((rd_T40 l0 x9_1).f2.f2.f0)) ∧ w'.cell? ⟨(ad350.add ((x9_1).toNat * 9)).block, (ad350.add ((x9_1).toNat * 9)).off + 7, none⟩ = some (.int .i64 ((rd_T40 l0 x9_1).f2.f2.f1)) ∧ w'.cell? ⟨(ad350.add ((x9_1).toNat * 9)).block, (ad350.add ((x9_1).toNat * 9)).off + 8, none⟩ = some (.int .i64 ((rd_T40 l0 x9_1).f2.f2.f2))) (ds := []) b6_36 KR rfl rfl ⟨(blk_cell BK351.out 0).trans rfl, (blk_cell BK351.out 1).trans rfl, (blk_cell BK351.out 2).trans rfl, (blk_cell BK351.out 3).trans rfl, (blk_cell BK351.out 4).trans rfl, (blk_cell BK351.out 5).trans rfl, (blk_cell BK351.out 6).trans rfl, (blk_cell BK351.out 7).trans rfl, (blk_cell BK351.out 8).trans rfl, ((HB.out.cell (World.block_lt_of_cell? w _ hw356_0)).trans hw356_0), ((HB.out.cell (World.block_lt_of_cell? w _ hw356_1)).trans hw356_1), ((HB.out.cell (World.block_lt_of_cell? w _ hw356_2)).trans hw356_2), ((HB.out.cell (World.block_lt_of_cell? w _ hw356_3)).trans hw356_3), ((HB.out.cell (World.block_lt_of_cell? w _ hw356_4)).trans hw356_4), ((HB.out.cell (World.block_lt_of_cell? w _ hw356_5)).trans hw356_5), ((HB.out.cell (World.block_lt_of_cell? w _ hw356_6)).trans hw356_6), ((HB.out.cell (World.block_lt_of_cell? w _ hw356_7)).trans hw356_7), ((HB.out.cell (World.block_lt_of_cell? w _ hw356_8)).trans hw356_8)⟩ (fun hHeld => ?_); refine with_tabW impl_nearest.tab9 impl_nearest.bits9 (fun HT_ HW_ => ?_)
             generalize w40.drew = w41 at BK349 BK351 HB HR356_5 hx356_0 hx356_1 hx356_2 hx356_3 hx356_4 hx356_5 hx356_6 hx356_7 hx356_8 hHeld ⊢
             refine pu_ (i := 0) (N := some 41) b6_35 HT_ ?_
             refine pu_ (i := 1) (N := some 42) b6_34 HT_ ?_
             refine pu_ (i := 2) (N := some 43) b6_33 HT_ ?_
             refine pu_ (i := 3) (N := some 44) b6_32 HT_ ?_
             refine pu_ (i := 4) (N := some 45) b6_31 HT_ ?_
             refine pu_ (i := 5) (N := some 46) b6_30 HT_ ?_
             refine pu_ (i := 6) (N := some 47) b6_29 HT_ ?_
             refine pu_ (i := 7) (N := some 48) b6_28 HT_ ?_
             refine pu_ (i := 8) (N := some 49) b6_27 HT_ ?_
             refine pu_ (i := 10) (N := some 51) b6_25 HT_ ?_
             refine pu_ (i := 11) (N := some 52) b6_23 HT_ ?_
             refine pu_ (i := 12) (N := some 53) b6_21 HT_ ?_
             refine pu_ (i := 13) (N := some 54) b6_19 HT_ ?_
             refine tk_ (i := 9) (N := some 50) b6_18 rfl rfl HT_ HW_ hHeld ?_
             refine take_ (i := 14) (N := some 55) (v := ?_) (a' := ?_) b6_17 rfl rfl (take_ofW HT_.out HW_.out KR) (fun _ _ _ h => h) (Or.inl ⟨by rfl, ?_⟩) hHeld ?_ ?_
             rotate_left
             ·rintro w' ⟨s0, s1, s2, s3, s4, s5, s6, s7, s8, s9, s10, s11, s12, s13, s14, s15, s16, s17⟩
              go_simp
              with_reducible rfl
             rotate_left
             ·simp only [Act.put, List.setIfInBounds_toArray, List.set_cons_zero, List.set_cons_succ, i64_w, i32_w]
              rfl
             refine pu_ (i := 15) (N := some 56) b6_16 HT_ ?_
             refine pu_ (i := 16) (N := some 57) b6_15 HT_ ?_
             refine pu_ (i := 17) (N := some 58) b6_14 HT_ ?_
             refine done_ (done_of HT_.out KR) ?_
             try go_wp2
             go_roundg k1
             case measure => have := HK1.out; omega
             case rel => exact ⟨(x16_1), (wrap64 (x16_1 + 1)), (by first | rfl | (simp; done) | (simp [*]; done)), (by first | rfl | (simp; done) | (simp [*]; done)), H', ⟨by have := HK1.out; omega⟩, ⟨PK BK349⟩, ⟨PB⟩⟩
            ·rw [if_neg c32] at H
             have c32b0 : decide (((rd_T40 l0 x16_1).f1) < ((rd_T40 l0 x9_1).f1)) = false := decide_eq_false c32
             clear c32
             have H' := Aside0.mk H
             clear H
             have p350 : 0 ≤ (x16_1 : Int) := of_decide_eq_true (by first | (with_reducible assumption) | assumption)
             have q350 : x16_1 < (l0.length : Int) := of_decide_eq_true (by first | (with_reducible assumption) | assumption)
             obtain ⟨ad350, A350_5, c350_5, e350, hx350_0, hx350_1, hx350_2, hx350_3, hx350_4, hx350_5, hx350_6, hx350_7, hx350_8, hl350_5, hi350_5⟩ := at_T40 HR0.out x16_1 p350 q350
             cases e350
             replace hx350_0 := hx_ HB hx350_0
             replace hx350_1 := hx_ HB hx350_1
             replace hx350_2 := hx_ HB hx350_2
             replace hx350_3 := hx_ HB hx350_3
             replace hx350_4 := hx_ HB hx350_4
             replace hx350_5 := hx_ HB hx350_5
             replace hx350_6 := hx_ HB hx350_6
             replace hx350_7 := hx_ HB hx350_7
             replace hx350_8 := hx_ HB hx350_8
             have HR350_5 := Aside0.mk hi350_5
             have HC350_5 := Aside0.mk hl350_5
             clear hi350_5 hl350_5
             replace p350 := eq_true p350
             replace q350 := eq_true q350
             try go_wp2_with (first | ((with_reducible refine gate_dst (N := 11) rfl ?_); refine bx_ (N := 11) #[.int .i64 0, .int .i64 0, .int .i64 0, .int .i64 0, .int .i64 0, .slice none 0 0, .int .i64 0, .int .i64 0, .int .i64 0] 40 ?_; intro gb351 hg w42 hbox hb; have BK351 := ak hbox; have GW351 := gy hg HB; have GE351 := gy hg HB; replace HB := bs HB hb; have NB349_351 := gm hg BK349; have NB351_349 := gn hg BK349; replace BK349 := kf BK349 hb; clear hb hbox hg; have hnb43 := NB351_349.out; have hnc43 := NB349_351.out; obtain ⟨_, _, _, _, _, _, _, _, _, _, _, _, _, _, _, _, _, _⟩ := bc9 BK351; obtain ⟨_, _, _, _, _, _⟩ := bc3 BK349) | ((with_reducible refine gate_callee (f := 16) rfl ?_); refine goesL_ (some 24) rfl rfl Try.func16 KR rfl #[.agg #[.int .i64 ((rd_T40 l0 x16_1).f0.f0), .int .i64 ((rd_T40 l0 x16_1).f0.f1), .int .i64 ((rd_T40 l0 x16_1).f0.f2)], .agg #[.int .i64 a1_0, .int .i64 a1_1, .int .i64 a1_2]] rfl AR ?_; (with_reducible refine (impl_DistanceOf.calls ((rd_T40 l0 x16_1).f0.f0) ((rd_T40 l0 x16_1).f0.f1) ((rd_T40 l0 x16_1).f0.f2) a1_0 a1_1 a1_2 t352 _ A9.out).mono ?_); rintro e w46 ⟨rfl, hb⟩; refine ⟨_, rfl, ?_⟩; replace BK349 := kf BK349 hb; replace BK351 := kp (cs' := #[.int .i64 ((rd_T40 l0 x16_1).f0.f0), .int .i64 ((rd_T40 l0 x16_1).f0.f1), .int .i64 ((rd_T40 l0 x16_1).f0.f2), .int .i64 ((rd_T40 l0 x16_1).f1), .int .i64 ((rd_T40 l0 x16_1).f2.f0), .slice A350_5 ((rd_T40 l0 x16_1).f2.f1).length c350_5, .int .i64 ((rd_T40 l0 x16_1).f2.f2.f0), .int .i64 ((rd_T40 l0 x16_1).f2.f2.f1), .int .i64 ((rd_T40 l0 x16_1).f2.f2.f2)]) BK351 hb; replace HB := bs HB hb; (try clear hb); (try clear hb2); (try clear hk); (try clear hi)))
             replace BK349 := ak (blk_drew BK349.out)
             replace BK351 := ak (blk_drew BK351.out)
             replace HB := ak (below_drew1 HB.out)
             have p354 : 0 ≤ (x9_1 : Int) := of_decide_eq_true (by first | (with_reducible assumption) | assumption)
             have q354 : x9_1 < (l0.length : Int) := of_decide_eq_true (by first | (with_reducible assumption) | assumption)
             obtain ⟨ad354, A354_5, c354_5, e354, hx354_0, hx354_1, hx354_2, hx354_3, hx354_4, hx354_5, hx354_6, hx354_7, hx354_8, hl354_5, hi354_5⟩ := at_T40 HR0.out x9_1 p354 q354
             have hw354_8 := hx354_8
             have hw354_7 := hx354_7
             have hw354_6 := hx354_6
             have hw354_5 := hx354_5
             have hw354_4 := hx354_4
             have hw354_3 := hx354_3
             have hw354_2 := hx354_2
             have hw354_1 := hx354_1
             have hw354_0 := hx354_0
             obtain rfl : ad350 = ad354 := (by injection e354)
             replace hx354_0 := hx_ HB hx354_0
             replace hx354_1 := hx_ HB hx354_1
             replace hx354_2 := hx_ HB hx354_2
             replace hx354_3 := hx_ HB hx354_3
             replace hx354_4 := hx_ HB hx354_4
             replace hx354_5 := hx_ HB hx354_5
             replace hx354_6 := hx_ HB hx354_6
             replace hx354_7 := hx_ HB hx354_7
             replace hx354_8 := hx_ HB hx354_8
             have HR354_5 := Aside0.mk hi354_5
             have HC354_5 := Aside0.mk hl354_5
             clear hi354_5 hl354_5
             replace p354 := eq_true p354
             replace q354 := eq_true q354
             refine start_ (n := 13) (S := fun w' => w'.cell? ⟨gb351, 0, none⟩ = some (.int .i64 ((rd_T40 l0 x16_1).f0.f0)) ∧ w'.cell? ⟨gb351, 1, none⟩ = some (.int .i64 ((rd_T40 l0 x16_1).f0.f1)) ∧ w'.cell? ⟨gb351, 2, none⟩ = some (.int .i64 ((rd_T40 l0 x16_1).f0.f2)) ∧ w'.cell? ⟨gb351, 3, none⟩ = some (.int .i64 ((rd_T40 l0 x16_1).f1)) ∧ w'.cell? ⟨gb351, 4, none⟩ = some (.int .i64 ((rd_T40 l0 x16_1).f2.f0)) ∧ w'.cell? ⟨gb351, 5, none⟩ = some (.slice A350_5 ((rd_T40 l0 x16_1).f2.f1).length c350_5) ∧ w'.cell? ⟨gb351, 6, none⟩ = some (.int .i64 ((rd_T40 l0 x16_1).f2.f2.f0)) ∧ w'.cell? ⟨gb351, 7, none⟩ = some (.int .i64 ((rd_T40 l0 x16_1).f2.f2.f1)) ∧ w'.cell? ⟨gb351, 8, none⟩ = some (.int .i64 ((rd_T40 l0 x16_1).f2.f2.f2)) ∧ w'.cell? (ad350.add ((x9_1).toNat * 9)) = some (.int .i64 ((rd_T40 l0 x9_1).f0.f0)) ∧ w'.cell? ⟨(ad350.add ((x9_1).toNat * 9)).block, (ad350.add ((x9_1).toNat * 9)).off + 1, none⟩ = some (.int .i64 ((rd_T40 l0 x9_1).f0.f1)) ∧ w'.cell? ⟨(ad350.add ((x9_1).toNat * 9)).block, (ad350.add ((x9_1).toNat * 9)).off + 2, none⟩ = some (.int .i64 ((rd_T40 l0 x9_1).f0.f2)) ∧ w'.cell? ⟨(ad350.add ((x9_1).toNat * 9)).block, (ad350.add ((x9_1).toNat * 9)).off + 3, none⟩ = some (.int .i64 ((rd_T40 l0 x9_1).f1)) ∧ w'.cell? ⟨(ad350.add ((x9_1).toNat * 9)).block, (ad350.add ((x9_1).toNat * 9)).off + 4, none⟩ = some (.int .i64 ((rd_T40 l0 x9_1).f2.f0)) ∧ w'.cell? ⟨(ad350.add ((x9_1).toNat * 9)).block, (ad350.add ((x9_1).toNat * 9)).off + 5, none⟩ = some (.slice A354_5 ((rd_T40 l0 x9_1).f2.f1).length c354_5) ∧ w'.cell? ⟨(ad350.add ((x9_1).toNat * 9)).block, (ad350.add ((x9_1).toNat * 9)).off + 6, none⟩ = some (.int .i64 ((rd_T40 l0 x9_1).f2.f2.f0)) ∧ w'.cell? ⟨(ad350.add ((x9_1).toNat * 9)).block, (ad350.add ((x9_1).toNat * 9)).off + 7, none⟩ = some (.int .i64 ((rd_T40 l0 x9_1).f2.f2.f1)) ∧ w'.cell? ⟨(ad350.add ((x9_1).toNat * 9)).block, (ad350.add ((x9_1).toNat * 9)).off + 8, none⟩ = some (.int .i64 ((rd_T40 l0 x9_1).f2.f2.f2))) (ds := []) b6_13 KR rfl rfl ⟨(blk_cell BK351.out 0).trans rfl, (blk_cell BK351.out 1).trans rfl, (blk_cell BK351.out 2).trans rfl, (blk_cell BK351.out 3).trans rfl, (blk_cell BK351.out 4).trans rfl, (blk_cell BK351.out 5).trans rfl, (blk_cell BK351.out 6).trans rfl, (blk_cell BK351.out 7).trans rfl, (blk_cell BK351.out 8).trans rfl, ((HB.out.cell (World.block_lt_of_cell? w _ hw354_0)).trans hw354_0), ((HB.out.cell (World.block_lt_of_cell? w _ hw354_1)).trans hw354_1), ((HB.out.cell (World.block_lt_of_cell? w _ hw354_2)).trans hw354_2), ((HB.out.cell (World.block_lt_of_cell? w _ hw354_3)).trans hw354_3), ((HB.out.cell (World.block_lt_of_cell? w _ hw354_4)).trans hw354_4), ((HB.out.cell (World.block_lt_of_cell? w _ hw354_5)).trans hw354_5), ((HB.out.cell (World.block_lt_of_cell? w _ hw354_6)).trans hw354_6), ((HB.out.cell (World.block_lt_of_cell? w _ hw354_7)).trans hw354_7), ((HB.out.cell (World.block_lt_of_cell? w _ hw354_8)).trans hw354_8)⟩ (fun hHeld => ?_); refine with_tabW impl_nearest.tab8 impl_nearest.bits8 (fun HT_ HW_ => ?_)
             generalize w46.drew = w47 at BK349 BK351 HB HR354_5 hx354_0 hx354_1 hx354_2 hx354_3 hx354_4 hx354_5 hx354_6 hx354_7 hx354_8 hHeld ⊢
             refine pu_ (i := 0) (N := some 30) b6_12 HT_ ?_
             refine pu_ (i := 2) (N := some 32) b6_11 HT_ ?_
             refine pu_ (i := 4) (N := some 34) b6_10 HT_ ?_
             refine pu_ (i := 5) (N := some 35) b6_9 HT_ ?_
             refine pu_ (i := 6) (N := some 36) b6_8 HT_ ?_
             refine pu_ (i := 7) (N := some 37) b6_7 HT_ ?_
             refine pu_ (i := 9) (N := some 39) b6_6 HT_ ?_
             refine tk_ (i := 1) (N := some 31) b6_5 rfl rfl HT_ HW_ hHeld ?_
             refine take_ (i := 8) (N := some 38) (v := ?_) (a' := ?_) b6_4 rfl rfl (take_ofW HT_.out HW_.out KR) (fun _ _ _ h => h) (Or.inl ⟨by rfl, ?_⟩) hHeld ?_ ?_
             rotate_left
             ·rintro w' ⟨s0, s1, s2, s3, s4, s5, s6, s7, s8, s9, s10, s11, s12, s13, s14, s15, s16, s17⟩
              go_simp
              with_reducible rfl
             rotate_left
             ·simp only [Act.put, List.setIfInBounds_toArray, List.set_cons_zero, List.set_cons_succ, i64_w, i32_w]
              rfl
             refine one_ (i := 3) (N := some 33) b6_3 rfl rfl (one_of HT_.out KR) (by decide) (fun K hK => ?_)
             refine goes_ Try.func74 KR rfl #[.int .i64 ((rd_T40 l0 x16_1).f1), .int .i64 a2] (by rfl) rfl rfl AR ?_
             with_reducible refine (impl_distance.calls ((rd_T40 l0 x16_1).f1) a2 t353 _ A17.out).mono ?_
             rintro e w48 ⟨rfl, hb⟩
             refine ⟨_, rfl, ?_⟩
             replace BK349 := kf BK349 hb
             replace BK351 := kf BK351 hb
             replace HB := bs HB hb
             (try clear hb)
             (try clear hb2)
             (try clear hk)
             (try clear hi)
             refine hK.out _ _ ⟨(blk_cell BK351.out 0).trans rfl, (blk_cell BK351.out 1).trans rfl, (blk_cell BK351.out 2).trans rfl, (blk_cell BK351.out 3).trans rfl, (blk_cell BK351.out 4).trans rfl, (blk_cell BK351.out 5).trans rfl, (blk_cell BK351.out 6).trans rfl, (blk_cell BK351.out 7).trans rfl, (blk_cell BK351.out 8).trans rfl, ((HB.out.cell (World.block_lt_of_cell? w _ hw354_0)).trans hw354_0), ((HB.out.cell (World.block_lt_of_cell? w _ hw354_1)).trans hw354_1), ((HB.out.cell (World.block_lt_of_cell? w _ hw354_2)).trans hw354_2), ((HB.out.cell (World.block_lt_of_cell? w _ hw354_3)).trans hw354_3), ((HB.out.cell (World.block_lt_of_cell? w _ hw354_4)).trans hw354_4), ((HB.out.cell (World.block_lt_of_cell? w _ hw354_5)).trans hw354_5), ((HB.out.cell (World.block_lt_of_cell? w _ hw354_6)).trans hw354_6), ((HB.out.cell (World.block_lt_of_cell? w _ hw354_7)).trans hw354_7), ((HB.out.cell (World.block_lt_of_cell? w _ hw354_8)).trans hw354_8)⟩ (fun hHeld => ?_)
             clear hK K
             refine norm_ (a' := ?_) ?_ ?_
             rotate_left
             ·show Act.put _ (some 33) _ = _
              simp only [Act.put, List.setIfInBounds_toArray, List.set_cons_zero, List.set_cons_succ, i64_w, i32_w]
              rfl
             refine one_ (i := 10) (N := some 40) b6_2 rfl rfl (one_of HT_.out KR) (by decide) (fun K hK => ?_)
             refine goes_ Try.func74 KR rfl #[.int .i64 ((rd_T40 l0 x9_1).f1), .int .i64 a2] (by rfl) rfl rfl AR ?_
             with_reducible refine (impl_distance.calls ((rd_T40 l0 x9_1).f1) a2 t355 _ A20.out).mono ?_
             rintro e w49 ⟨rfl, hb⟩
             refine ⟨_, rfl, ?_⟩
             replace BK349 := kf BK349 hb
             replace BK351 := kf BK351 hb
             replace HB := bs HB hb
             (try clear hb)
             (try clear hb2)
             (try clear hk)
             (try clear hi)
             refine hK.out _ _ ⟨(blk_cell BK351.out 0).trans rfl, (blk_cell BK351.out 1).trans rfl, (blk_cell BK351.out 2).trans rfl, (blk_cell BK351.out 3).trans rfl, (blk_cell BK351.out 4).trans rfl, (blk_cell BK351.out 5).trans rfl, (blk_cell BK351.out 6).trans rfl, (blk_cell BK351.out 7).trans rfl, (blk_cell BK351.out 8).trans rfl, ((HB.out.cell (World.block_lt_of_cell? w _ hw354_0)).trans hw354_0), ((HB.out.cell (World.block_lt_of_cell? w _ hw354_1)).trans hw354_1), ((HB.out.cell (World.block_lt_of_cell? w _ hw354_2)).trans hw354_2), ((HB.out.cell (World.block_lt_of_cell? w _ hw354_3)).trans hw354_3), ((HB.out.cell (World.block_lt_of_cell? w _ hw354_4)).trans hw354_4), ((HB.out.cell (World.block_lt_of_cell? w _ hw354_5)).trans hw354_5), ((HB.out.cell (World.block_lt_of_cell? w _ hw354_6)).trans hw354_6), ((HB.out.cell (World.block_lt_of_cell? w _ hw354_7)).trans hw354_7), ((HB.out.cell (World.block_lt_of_cell? w _ hw354_8)).trans hw354_8)⟩ (fun hHeld => ?_)
             clear hK K
             refine norm_ (a' := ?_) ?_ ?_
             rotate_left
             ·show Act.put _ (some 40) _ = _
              simp only [Act.put, List.setIfInBounds_toArray, List.set_cons_zero, List.set_cons_succ, i64_w, i32_w]
              rfl
             refine pu_ (i := 11) (N := some 12) b6_1 HT_ ?_
             refine pu_ (i := 12) (N := some 13) b6_0 HT_ ?_
             refine done_ (done_of HT_.out KR) ?_
             try go_wp2
             replace BK349 := ak (blk_drew BK349.out)
             replace BK351 := ak (blk_drew BK351.out)
             replace HB := ak (below_drew1 HB.out)
             have p356 : 0 ≤ (x9_1 : Int) := of_decide_eq_true (by first | (with_reducible assumption) | assumption)
             have q356 : x9_1 < (l0.length : Int) := of_decide_eq_true (by first | (with_reducible assumption) | assumption)
             obtain ⟨ad356, A356_5, c356_5, e356, hx356_0, hx356_1, hx356_2, hx356_3, hx356_4, hx356_5, hx356_6, hx356_7, hx356_8, hl356_5, hi356_5⟩ := at_T40 HR0.out x9_1 p356 q356
             have hw356_8 := hx356_8
             have hw356_7 := hx356_7
             have hw356_6 := hx356_6
             have hw356_5 := hx356_5
             have hw356_4 := hx356_4
             have hw356_3 := hx356_3
             have hw356_2 := hx356_2
             have hw356_1 := hx356_1
             have hw356_0 := hx356_0
             obtain rfl : ad350 = ad356 := (by injection e356)
             replace hx356_0 := hx_ HB hx356_0
             replace hx356_1 := hx_ HB hx356_1
             replace hx356_2 := hx_ HB hx356_2
             replace hx356_3 := hx_ HB hx356_3
             replace hx356_4 := hx_ HB hx356_4
             replace hx356_5 := hx_ HB hx356_5
             replace hx356_6 := hx_ HB hx356_6
             replace hx356_7 := hx_ HB hx356_7
             replace hx356_8 := hx_ HB hx356_8
             have HR356_5 := Aside0.mk hi356_5
             have HC356_5 := Aside0.mk hl356_5
             clear hi356_5 hl356_5
             replace p356 := eq_true p356
             replace q356 := eq_true q356
             refine start_ (n := 18) (S := fun w' => w'.cell? ⟨gb351, 0, none⟩ = some (.int .i64 ((rd_T40 l0 x16_1).f0.f0)) ∧ w'.cell? ⟨gb351, 1, none⟩ = some (.int .i64 ((rd_T40 l0 x16_1).f0.f1)) ∧ w'.cell? ⟨gb351, 2, none⟩ = some (.int .i64 ((rd_T40 l0 x16_1).f0.f2)) ∧ w'.cell? ⟨gb351, 3, none⟩ = some (.int .i64 ((rd_T40 l0 x16_1).f1)) ∧ w'.cell? ⟨gb351, 4, none⟩ = some (.int .i64 ((rd_T40 l0 x16_1).f2.f0)) ∧ w'.cell? ⟨gb351, 5, none⟩ = some (.slice A350_5 ((rd_T40 l0 x16_1).f2.f1).length c350_5) ∧ w'.cell? ⟨gb351, 6, none⟩ = some (.int .i64 ((rd_T40 l0 x16_1).f2.f2.f0)) ∧ w'.cell? ⟨gb351, 7, none⟩ = some (.int .i64 ((rd_T40 l0 x16_1).f2.f2.f1)) ∧ w'.cell? ⟨gb351, 8, none⟩ = some (.int .i64 ((rd_T40 l0 x16_1).f2.f2.f2)) ∧ w'.cell? (ad350.add ((x9_1).toNat * 9)) = some (.int .i64 ((rd_T40 l0 x9_1).f0.f0)) ∧ w'.cell? ⟨(ad350.add ((x9_1).toNat * 9)).block, (ad350.add ((x9_1).toNat * 9)).off + 1, none⟩ = some (.int .i64 ((rd_T40 l0 x9_1).f0.f1)) ∧ w'.cell? ⟨(ad350.add ((x9_1).toNat * 9)).block, (ad350.add ((x9_1).toNat * 9)).off + 2, none⟩ = some (.int .i64 ((rd_T40 l0 x9_1).f0.f2)) ∧ w'.cell? ⟨(ad350.add ((x9_1).toNat * 9)).block, (ad350.add ((x9_1).toNat * 9)).off + 3, none⟩ = some (.int .i64 ((rd_T40 l0 x9_1).f1)) ∧ w'.cell? ⟨(ad350.add ((x9_1).toNat * 9)).block, (ad350.add ((x9_1).toNat * 9)).off + 4, none⟩ = some (.int .i64 ((rd_T40 l0 x9_1).f2.f0)) ∧ w'.cell? ⟨(ad350.add ((x9_1).toNat * 9)).block, (ad350.add ((x9_1).toNat * 9)).off + 5, none⟩ = some (.slice A356_5 ((rd_T40 l0 x9_1).f2.f1).length c356_5) ∧ w'.cell? ⟨(ad350.add ((x9_1).toNat * 9)).block, (ad350.add ((x9_1).toNat * 9)).off + 6, none⟩ = some (.int .i64 ((rd_T40 l0 x9_1).f2.f2.f0)) ∧ w'.cell? ⟨(ad350.add ((x9_1).toNat * 9)).block, (ad350.add ((x9_1).toNat * 9)).off + 7, none⟩ = some (.int .i64 ((rd_T40 l0 x9_1).f2.f2.f1)) ∧ w'.cell? ⟨(ad350.add ((x9_1).toNat * 9)).block, (ad350.add ((x9_1).toNat * 9)).off + 8, none⟩ = some (.int .i64 ((rd_T40 l0 x9_1).f2.f2.f2))) (ds := []) b6_36 KR rfl rfl ⟨(blk_cell BK351.out 0).trans rfl, (blk_cell BK351.out 1).trans rfl, (blk_cell BK351.out 2).trans rfl, (blk_cell BK351.out 3).trans rfl, (blk_cell BK351.out 4).trans rfl, (blk_cell BK351.out 5).trans rfl, (blk_cell BK351.out 6).trans rfl, (blk_cell BK351.out 7).trans rfl, (blk_cell BK351.out 8).trans rfl, ((HB.out.cell (World.block_lt_of_cell? w _ hw356_0)).trans hw356_0), ((HB.out.cell (World.block_lt_of_cell? w _ hw356_1)).trans hw356_1), ((HB.out.cell (World.block_lt_of_cell? w _ hw356_2)).trans hw356_2), ((HB.out.cell (World.block_lt_of_cell? w _ hw356_3)).trans hw356_3), ((HB.out.cell (World.block_lt_of_cell? w _ hw356_4)).trans hw356_4), ((HB.out.cell (World.block_lt_of_cell? w _ hw356_5)).trans hw356_5), ((HB.out.cell (World.block_lt_of_cell? w _ hw356_6)).trans hw356_6), ((HB.out.cell (World.block_lt_of_cell? w _ hw356_7)).trans hw356_7), ((HB.out.cell (World.block_lt_of_cell? w _ hw356_8)).trans hw356_8)⟩ (fun hHeld => ?_); refine with_tabW impl_nearest.tab9 impl_nearest.bits9 (fun HT_ HW_ => ?_)
             generalize w49.drew = w50 at BK349 BK351 HB HR356_5 hx356_0 hx356_1 hx356_2 hx356_3 hx356_4 hx356_5 hx356_6 hx356_7 hx356_8 hHeld ⊢
             refine pu_ (i := 0) (N := some 41) b6_35 HT_ ?_
             refine pu_ (i := 1) (N := some 42) b6_34 HT_ ?_
             refine pu_ (i := 2) (N := some 43) b6_33 HT_ ?_
             refine pu_ (i := 3) (N := some 44) b6_32 HT_ ?_
             refine pu_ (i := 4) (N := some 45) b6_31 HT_ ?_
             refine pu_ (i := 5) (N := some 46) b6_30 HT_ ?_
             refine pu_ (i := 6) (N := some 47) b6_29 HT_ ?_
             refine pu_ (i := 7) (N := some 48) b6_28 HT_ ?_
             refine pu_ (i := 8) (N := some 49) b6_27 HT_ ?_
             refine pu_ (i := 10) (N := some 51) b6_25 HT_ ?_
             refine pu_ (i := 11) (N := some 52) b6_23 HT_ ?_
             refine pu_ (i := 12) (N := some 53) b6_21 HT_ ?_
             refine pu_ (i := 13) (N := some 54) b6_19 HT_ ?_
             refine tk_ (i := 9) (N := some 50) b6_18 rfl rfl HT_ HW_ hHeld ?_
             refine take_ (i := 14) (N := some 55) (v := ?_) (a' := ?_) b6_17 rfl rfl (take_ofW HT_.out HW_.out KR) (fun _ _ _ h => h) (Or.inl ⟨by rfl, ?_⟩) hHeld ?_ ?_
             rotate_left
             ·rintro w' ⟨s0, s1, s2, s3, s4, s5, s6, s7, s8, s9, s10, s11, s12, s13, s14, s15, s16, s17⟩
              go_simp
              with_reducible rfl
             rotate_left
             ·simp only [Act.put, List.setIfInBounds_toArray, List.set_cons_zero, List.set_cons_succ, i64_w, i32_w]
              rfl
             refine pu_ (i := 15) (N := some 56) b6_16 HT_ ?_
             refine pu_ (i := 16) (N := some 57) b6_15 HT_ ?_
             refine pu_ (i := 17) (N := some 58) b6_14 HT_ ?_
             refine done_ (done_of HT_.out KR) ?_
             try go_wp2
             go_roundg k1
             case measure => have := HK1.out; omega
             case rel => exact ⟨(x9_1), (wrap64 (x16_1 + 1)), (by first | rfl | (simp; done) | (simp [*]; done)), (by first | rfl | (simp; done) | (simp [*]; done)), H', ⟨by have := HK1.out; omega⟩, ⟨PK BK349⟩, ⟨PB⟩⟩
           ·rw [if_neg c31] at H
            have c31b0 : (t353 == t355) = false := beq_eq_false_iff_ne.mpr c31
            have c31b1 : (t353 != t355) = true := bne_iff_ne.mpr c31
            have H' := Aside0.mk H
            clear H
            have p350 : 0 ≤ (x16_1 : Int) := of_decide_eq_true (by first | (with_reducible assumption) | assumption)
            have q350 : x16_1 < (l0.length : Int) := of_decide_eq_true (by first | (with_reducible assumption) | assumption)
            obtain ⟨ad350, A350_5, c350_5, e350, hx350_0, hx350_1, hx350_2, hx350_3, hx350_4, hx350_5, hx350_6, hx350_7, hx350_8, hl350_5, hi350_5⟩ := at_T40 HR0.out x16_1 p350 q350
            cases e350
            replace hx350_0 := hx_ HB hx350_0
            replace hx350_1 := hx_ HB hx350_1
            replace hx350_2 := hx_ HB hx350_2
            replace hx350_3 := hx_ HB hx350_3
            replace hx350_4 := hx_ HB hx350_4
            replace hx350_5 := hx_ HB hx350_5
            replace hx350_6 := hx_ HB hx350_6
            replace hx350_7 := hx_ HB hx350_7
            replace hx350_8 := hx_ HB hx350_8
            have HR350_5 := Aside0.mk hi350_5
            have HC350_5 := Aside0.mk hl350_5
            clear hi350_5 hl350_5
            replace p350 := eq_true p350
            replace q350 := eq_true q350
            try go_wp2_with (first | ((with_reducible refine gate_dst (N := 11) rfl ?_); refine bx_ (N := 11) #[.int .i64 0, .int .i64 0, .int .i64 0, .int .i64 0, .int .i64 0, .slice none 0 0, .int .i64 0, .int .i64 0, .int .i64 0] 40 ?_; intro gb351 hg w51 hbox hb; have BK351 := ak hbox; have GW351 := gy hg HB; have GE351 := gy hg HB; replace HB := bs HB hb; have NB349_351 := gm hg BK349; have NB351_349 := gn hg BK349; replace BK349 := kf BK349 hb; clear hb hbox hg; have hnb52 := NB351_349.out; have hnc52 := NB349_351.out; obtain ⟨_, _, _, _, _, _, _, _, _, _, _, _, _, _, _, _, _, _⟩ := bc9 BK351; obtain ⟨_, _, _, _, _, _⟩ := bc3 BK349) | ((with_reducible refine gate_callee (f := 16) rfl ?_); refine goesL_ (some 24) rfl rfl Try.func16 KR rfl #[.agg #[.int .i64 ((rd_T40 l0 x16_1).f0.f0), .int .i64 ((rd_T40 l0 x16_1).f0.f1), .int .i64 ((rd_T40 l0 x16_1).f0.f2)], .agg #[.int .i64 a1_0, .int .i64 a1_1, .int .i64 a1_2]] rfl AR ?_; (with_reducible refine (impl_DistanceOf.calls ((rd_T40 l0 x16_1).f0.f0) ((rd_T40 l0 x16_1).f0.f1) ((rd_T40 l0 x16_1).f0.f2) a1_0 a1_1 a1_2 t352 _ A9.out).mono ?_); rintro e w55 ⟨rfl, hb⟩; refine ⟨_, rfl, ?_⟩; replace BK349 := kf BK349 hb; replace BK351 := kp (cs' := #[.int .i64 ((rd_T40 l0 x16_1).f0.f0), .int .i64 ((rd_T40 l0 x16_1).f0.f1), .int .i64 ((rd_T40 l0 x16_1).f0.f2), .int .i64 ((rd_T40 l0 x16_1).f1), .int .i64 ((rd_T40 l0 x16_1).f2.f0), .slice A350_5 ((rd_T40 l0 x16_1).f2.f1).length c350_5, .int .i64 ((rd_T40 l0 x16_1).f2.f2.f0), .int .i64 ((rd_T40 l0 x16_1).f2.f2.f1), .int .i64 ((rd_T40 l0 x16_1).f2.f2.f2)]) BK351 hb; replace HB := bs HB hb; (try clear hb); (try clear hb2); (try clear hk); (try clear hi)))
            replace BK349 := ak (blk_drew BK349.out)
            replace BK351 := ak (blk_drew BK351.out)
            replace HB := ak (below_drew1 HB.out)
            have p354 : 0 ≤ (x9_1 : Int) := of_decide_eq_true (by first | (with_reducible assumption) | assumption)
            have q354 : x9_1 < (l0.length : Int) := of_decide_eq_true (by first | (with_reducible assumption) | assumption)
            obtain ⟨ad354, A354_5, c354_5, e354, hx354_0, hx354_1, hx354_2, hx354_3, hx354_4, hx354_5, hx354_6, hx354_7, hx354_8, hl354_5, hi354_5⟩ := at_T40 HR0.out x9_1 p354 q354
            have hw354_8 := hx354_8
            have hw354_7 := hx354_7
            have hw354_6 := hx354_6
            have hw354_5 := hx354_5
            have hw354_4 := hx354_4
            have hw354_3 := hx354_3
            have hw354_2 := hx354_2
            have hw354_1 := hx354_1
            have hw354_0 := hx354_0
            obtain rfl : ad350 = ad354 := (by injection e354)
            replace hx354_0 := hx_ HB hx354_0
            replace hx354_1 := hx_ HB hx354_1
            replace hx354_2 := hx_ HB hx354_2
            replace hx354_3 := hx_ HB hx354_3
            replace hx354_4 := hx_ HB hx354_4
            replace hx354_5 := hx_ HB hx354_5
            replace hx354_6 := hx_ HB hx354_6
            replace hx354_7 := hx_ HB hx354_7
            replace hx354_8 := hx_ HB hx354_8
            have HR354_5 := Aside0.mk hi354_5
            have HC354_5 := Aside0.mk hl354_5
            clear hi354_5 hl354_5
            replace p354 := eq_true p354
            replace q354 := eq_true q354
            refine start_ (n := 13) (S := fun w' => w'.cell? ⟨gb351, 0, none⟩ = some (.int .i64 ((rd_T40 l0 x16_1).f0.f0)) ∧ w'.cell? ⟨gb351, 1, none⟩ = some (.int .i64 ((rd_T40 l0 x16_1).f0.f1)) ∧ w'.cell? ⟨gb351, 2, none⟩ = some (.int .i64 ((rd_T40 l0 x16_1).f0.f2)) ∧ w'.cell? ⟨gb351, 3, none⟩ = some (.int .i64 ((rd_T40 l0 x16_1).f1)) ∧ w'.cell? ⟨gb351, 4, none⟩ = some (.int .i64 ((rd_T40 l0 x16_1).f2.f0)) ∧ w'.cell? ⟨gb351, 5, none⟩ = some (.slice A350_5 ((rd_T40 l0 x16_1).f2.f1).length c350_5) ∧ w'.cell? ⟨gb351, 6, none⟩ = some (.int .i64 ((rd_T40 l0 x16_1).f2.f2.f0)) ∧ w'.cell? ⟨gb351, 7, none⟩ = some (.int .i64 ((rd_T40 l0 x16_1).f2.f2.f1)) ∧ w'.cell? ⟨gb351, 8, none⟩ = some (.int .i64 ((rd_T40 l0 x16_1).f2.f2.f2)) ∧ w'.cell? (ad350.add ((x9_1).toNat * 9)) = some (.int .i64 ((rd_T40 l0 x9_1).f0.f0)) ∧ w'.cell? ⟨(ad350.add ((x9_1).toNat * 9)).block, (ad350.add ((x9_1).toNat * 9)).off + 1, none⟩ = some (.int .i64 ((rd_T40 l0 x9_1).f0.f1)) ∧ w'.cell? ⟨(ad350.add ((x9_1).toNat * 9)).block, (ad350.add ((x9_1).toNat * 9)).off + 2, none⟩ = some (.int .i64 ((rd_T40 l0 x9_1).f0.f2)) ∧ w'.cell? ⟨(ad350.add ((x9_1).toNat * 9)).block, (ad350.add ((x9_1).toNat * 9)).off + 3, none⟩ = some (.int .i64 ((rd_T40 l0 x9_1).f1)) ∧ w'.cell? ⟨(ad350.add ((x9_1).toNat * 9)).block, (ad350.add ((x9_1).toNat * 9)).off + 4, none⟩ = some (.int .i64 ((rd_T40 l0 x9_1).f2.f0)) ∧ w'.cell? ⟨(ad350.add ((x9_1).toNat * 9)).block, (ad350.add ((x9_1).toNat * 9)).off + 5, none⟩ = some (.slice A354_5 ((rd_T40 l0 x9_1).f2.f1).length c354_5) ∧ w'.cell? ⟨(ad350.add ((x9_1).toNat * 9)).block, (ad350.add ((x9_1).toNat * 9)).off + 6, none⟩ = some (.int .i64 ((rd_T40 l0 x9_1).f2.f2.f0)) ∧ w'.cell? ⟨(ad350.add ((x9_1).toNat * 9)).block, (ad350.add ((x9_1).toNat * 9)).off + 7, none⟩ = some (.int .i64 ((rd_T40 l0 x9_1).f2.f2.f1)) ∧ w'.cell? ⟨(ad350.add ((x9_1).toNat * 9)).block, (ad350.add ((x9_1).toNat * 9)).off + 8, none⟩ = some (.int .i64 ((rd_T40 l0 x9_1).f2.f2.f2))) (ds := []) b6_13 KR rfl rfl ⟨(blk_cell BK351.out 0).trans rfl, (blk_cell BK351.out 1).trans rfl, (blk_cell BK351.out 2).trans rfl, (blk_cell BK351.out 3).trans rfl, (blk_cell BK351.out 4).trans rfl, (blk_cell BK351.out 5).trans rfl, (blk_cell BK351.out 6).trans rfl, (blk_cell BK351.out 7).trans rfl, (blk_cell BK351.out 8).trans rfl, ((HB.out.cell (World.block_lt_of_cell? w _ hw354_0)).trans hw354_0), ((HB.out.cell (World.block_lt_of_cell? w _ hw354_1)).trans hw354_1), ((HB.out.cell (World.block_lt_of_cell? w _ hw354_2)).trans hw354_2), ((HB.out.cell (World.block_lt_of_cell? w _ hw354_3)).trans hw354_3), ((HB.out.cell (World.block_lt_of_cell? w _ hw354_4)).trans hw354_4), ((HB.out.cell (World.block_lt_of_cell? w _ hw354_5)).trans hw354_5), ((HB.out.cell (World.block_lt_of_cell? w _ hw354_6)).trans hw354_6), ((HB.out.cell (World.block_lt_of_cell? w _ hw354_7)).trans hw354_7), ((HB.out.cell (World.block_lt_of_cell? w _ hw354_8)).trans hw354_8)⟩ (fun hHeld => ?_); refine with_tabW impl_nearest.tab8 impl_nearest.bits8 (fun HT_ HW_ => ?_)
            generalize w55.drew = w56 at BK349 BK351 HB HR354_5 hx354_0 hx354_1 hx354_2 hx354_3 hx354_4 hx354_5 hx354_6 hx354_7 hx354_8 hHeld ⊢
            refine pu_ (i := 0) (N := some 30) b6_12 HT_ ?_
            refine pu_ (i := 2) (N := some 32) b6_11 HT_ ?_
            refine pu_ (i := 4) (N := some 34) b6_10 HT_ ?_
            refine pu_ (i := 5) (N := some 35) b6_9 HT_ ?_
            refine pu_ (i := 6) (N := some 36) b6_8 HT_ ?_
            refine pu_ (i := 7) (N := some 37) b6_7 HT_ ?_
            refine pu_ (i := 9) (N := some 39) b6_6 HT_ ?_
            refine tk_ (i := 1) (N := some 31) b6_5 rfl rfl HT_ HW_ hHeld ?_
            refine take_ (i := 8) (N := some 38) (v := ?_) (a' := ?_) b6_4 rfl rfl (take_ofW HT_.out HW_.out KR) (fun _ _ _ h => h) (Or.inl ⟨by rfl, ?_⟩) hHeld ?_ ?_
            rotate_left
            ·rintro w' ⟨s0, s1, s2, s3, s4, s5, s6, s7, s8, s9, s10, s11, s12, s13, s14, s15, s16, s17⟩
             go_simp
             with_reducible rfl
            rotate_left
            ·simp only [Act.put, List.setIfInBounds_toArray, List.set_cons_zero, List.set_cons_succ, i64_w, i32_w]
             rfl
            refine one_ (i := 3) (N := some 33) b6_3 rfl rfl (one_of HT_.out KR) (by decide) (fun K hK => ?_)
            refine goes_ Try.func74 KR rfl #[.int .i64 ((rd_T40 l0 x16_1).f1), .int .i64 a2] (by rfl) rfl rfl AR ?_
            with_reducible refine (impl_distance.calls ((rd_T40 l0 x16_1).f1) a2 t353 _ A17.out).mono ?_
            rintro e w57 ⟨rfl, hb⟩
            refine ⟨_, rfl, ?_⟩
            replace BK349 := kf BK349 hb
            replace BK351 := kf BK351 hb
            replace HB := bs HB hb
            (try clear hb)
            (try clear hb2)
            (try clear hk)
            (try clear hi)
            refine hK.out _ _ ⟨(blk_cell BK351.out 0).trans rfl, (blk_cell BK351.out 1).trans rfl, (blk_cell BK351.out 2).trans rfl, (blk_cell BK351.out 3).trans rfl, (blk_cell BK351.out 4).trans rfl, (blk_cell BK351.out 5).trans rfl, (blk_cell BK351.out 6).trans rfl, (blk_cell BK351.out 7).trans rfl, (blk_cell BK351.out 8).trans rfl, ((HB.out.cell (World.block_lt_of_cell? w _ hw354_0)).trans hw354_0), ((HB.out.cell (World.block_lt_of_cell? w _ hw354_1)).trans hw354_1), ((HB.out.cell (World.block_lt_of_cell? w _ hw354_2)).trans hw354_2), ((HB.out.cell (World.block_lt_of_cell? w _ hw354_3)).trans hw354_3), ((HB.out.cell (World.block_lt_of_cell? w _ hw354_4)).trans hw354_4), ((HB.out.cell (World.block_lt_of_cell? w _ hw354_5)).trans hw354_5), ((HB.out.cell (World.block_lt_of_cell? w _ hw354_6)).trans hw354_6), ((HB.out.cell (World.block_lt_of_cell? w _ hw354_7)).trans hw354_7), ((HB.out.cell (World.block_lt_of_cell? w _ hw354_8)).trans hw354_8)⟩ (fun hHeld => ?_)
            clear hK K
            refine norm_ (a' := ?_) ?_ ?_
            rotate_left
            ·show Act.put _ (some 33) _ = _
             simp only [Act.put, List.setIfInBounds_toArray, List.set_cons_zero, List.set_cons_succ, i64_w, i32_w]
             rfl
            refine one_ (i := 10) (N := some 40) b6_2 rfl rfl (one_of HT_.out KR) (by decide) (fun K hK => ?_)
            refine goes_ Try.func74 KR rfl #[.int .i64 ((rd_T40 l0 x9_1).f1), .int .i64 a2] (by rfl) rfl rfl AR ?_
            with_reducible refine (impl_distance.calls ((rd_T40 l0 x9_1).f1) a2 t355 _ A20.out).mono ?_
            rintro e w58 ⟨rfl, hb⟩
            refine ⟨_, rfl, ?_⟩
            replace BK349 := kf BK349 hb
            replace BK351 := kf BK351 hb
            replace HB := bs HB hb
            (try clear hb)
            (try clear hb2)
            (try clear hk)
            (try clear hi)
            refine hK.out _ _ ⟨(blk_cell BK351.out 0).trans rfl, (blk_cell BK351.out 1).trans rfl, (blk_cell BK351.out 2).trans rfl, (blk_cell BK351.out 3).trans rfl, (blk_cell BK351.out 4).trans rfl, (blk_cell BK351.out 5).trans rfl, (blk_cell BK351.out 6).trans rfl, (blk_cell BK351.out 7).trans rfl, (blk_cell BK351.out 8).trans rfl, ((HB.out.cell (World.block_lt_of_cell? w _ hw354_0)).trans hw354_0), ((HB.out.cell (World.block_lt_of_cell? w _ hw354_1)).trans hw354_1), ((HB.out.cell (World.block_lt_of_cell? w _ hw354_2)).trans hw354_2), ((HB.out.cell (World.block_lt_of_cell? w _ hw354_3)).trans hw354_3), ((HB.out.cell (World.block_lt_of_cell? w _ hw354_4)).trans hw354_4), ((HB.out.cell (World.block_lt_of_cell? w _ hw354_5)).trans hw354_5), ((HB.out.cell (World.block_lt_of_cell? w _ hw354_6)).trans hw354_6), ((HB.out.cell (World.block_lt_of_cell? w _ hw354_7)).trans hw354_7), ((HB.out.cell (World.block_lt_of_cell? w _ hw354_8)).trans hw354_8)⟩ (fun hHeld => ?_)
            clear hK K
            refine norm_ (a' := ?_) ?_ ?_
            rotate_left
            ·show Act.put _ (some 40) _ = _
             simp only [Act.put, List.setIfInBounds_toArray, List.set_cons_zero, List.set_cons_succ, i64_w, i32_w]
             rfl
            refine pu_ (i := 11) (N := some 12) b6_1 HT_ ?_
            refine pu_ (i := 12) (N := some 13) b6_0 HT_ ?_
            refine done_ (done_of HT_.out KR) ?_
            try go_wp2
            replace BK349 := ak (blk_drew BK349.out)
            replace BK351 := ak (blk_drew BK351.out)
            replace HB := ak (below_drew1 HB.out)
            refine start_ (n := 18) (S := fun w' => True) (ds := []) b6_36 KR rfl rfl trivial (fun hHeld => ?_); refine with_tabW impl_nearest.tab9 impl_nearest.bits9 (fun HT_ HW_ => ?_)
            generalize w58.drew = w59 at BK349 BK351 HB hHeld ⊢
            refine pu_ (i := 0) (N := some 41) b6_35 HT_ ?_
            refine pu_ (i := 1) (N := some 42) b6_34 HT_ ?_
            refine pu_ (i := 2) (N := some 43) b6_33 HT_ ?_
            refine pu_ (i := 3) (N := some 44) b6_32 HT_ ?_
            refine pu_ (i := 4) (N := some 45) b6_31 HT_ ?_
            refine pu_ (i := 5) (N := some 46) b6_30 HT_ ?_
            refine pu_ (i := 6) (N := some 47) b6_29 HT_ ?_
            refine pu_ (i := 7) (N := some 48) b6_28 HT_ ?_
            refine un_ (i := 8) (N := some 49) b6_27 HT_ ?_
            refine un_ (i := 9) (N := some 50) b6_26 HT_ ?_
            refine un_ (i := 10) (N := some 51) b6_24 HT_ ?_
            refine un_ (i := 11) (N := some 52) b6_22 HT_ ?_
            refine un_ (i := 12) (N := some 53) b6_20 HT_ ?_
            refine un_ (i := 13) (N := some 54) b6_18 HT_ ?_
            refine un_ (i := 14) (N := some 55) b6_17 HT_ ?_
            refine un_ (i := 15) (N := some 56) b6_16 HT_ ?_
            refine pu_ (i := 16) (N := some 57) b6_15 HT_ ?_
            refine pu_ (i := 17) (N := some 58) b6_14 HT_ ?_
            refine done_ (done_of HT_.out KR) ?_
            try go_wp2
            go_roundg k1
            case measure => have := HK1.out; omega
            case rel => exact ⟨(x9_1), (wrap64 (x16_1 + 1)), (by first | rfl | (simp; done) | (simp [*]; done)), (by first | rfl | (simp; done) | (simp [*]; done)), H', ⟨by have := HK1.out; omega⟩, ⟨PK BK349⟩, ⟨PB⟩⟩
         ·rw [if_neg c19] at H
          exact absurd H (by simp)
        ·rw [if_neg c18] at H
         exact absurd H (by simp)
      ·rw [if_neg c10] at H
       have c10b0 : (t352 == a3) = false := beq_eq_false_iff_ne.mpr c10
       have c10b1 : (t352 != a3) = true := bne_iff_ne.mpr c10
       have H' := Aside0.mk H
       clear H
       have p350 : 0 ≤ (x16_1 : Int) := of_decide_eq_true (by first | (with_reducible assumption) | assumption)
       have q350 : x16_1 < (l0.length : Int) := of_decide_eq_true (by first | (with_reducible assumption) | assumption)
       obtain ⟨ad350, A350_5, c350_5, e350, hx350_0, hx350_1, hx350_2, hx350_3, hx350_4, hx350_5, hx350_6, hx350_7, hx350_8, hl350_5, hi350_5⟩ := at_T40 HR0.out x16_1 p350 q350
       cases e350
       replace hx350_0 := hx_ HB hx350_0
       replace hx350_1 := hx_ HB hx350_1
       replace hx350_2 := hx_ HB hx350_2
       replace hx350_3 := hx_ HB hx350_3
       replace hx350_4 := hx_ HB hx350_4
       replace hx350_5 := hx_ HB hx350_5
       replace hx350_6 := hx_ HB hx350_6
       replace hx350_7 := hx_ HB hx350_7
       replace hx350_8 := hx_ HB hx350_8
       have HR350_5 := Aside0.mk hi350_5
       have HC350_5 := Aside0.mk hl350_5
       clear hi350_5 hl350_5
       replace p350 := eq_true p350
       replace q350 := eq_true q350
       go_wp2_with (first | ((with_reducible refine gate_dst (N := 11) rfl ?_); refine bx_ (N := 11) #[.int .i64 0, .int .i64 0, .int .i64 0, .int .i64 0, .int .i64 0, .slice none 0 0, .int .i64 0, .int .i64 0, .int .i64 0] 40 ?_; intro gb351 hg w60 hbox hb; have BK351 := ak hbox; have GW351 := gy hg HB; have GE351 := gy hg HB; replace HB := bs HB hb; have NB349_351 := gm hg BK349; have NB351_349 := gn hg BK349; replace BK349 := kf BK349 hb; clear hb hbox hg; have hnb61 := NB351_349.out; have hnc61 := NB349_351.out; obtain ⟨_, _, _, _, _, _, _, _, _, _, _, _, _, _, _, _, _, _⟩ := bc9 BK351; obtain ⟨_, _, _, _, _, _⟩ := bc3 BK349) | ((with_reducible refine gate_callee (f := 16) rfl ?_); refine goesL_ (some 24) rfl rfl Try.func16 KR rfl #[.agg #[.int .i64 ((rd_T40 l0 x16_1).f0.f0), .int .i64 ((rd_T40 l0 x16_1).f0.f1), .int .i64 ((rd_T40 l0 x16_1).f0.f2)], .agg #[.int .i64 a1_0, .int .i64 a1_1, .int .i64 a1_2]] rfl AR ?_; (with_reducible refine (impl_DistanceOf.calls ((rd_T40 l0 x16_1).f0.f0) ((rd_T40 l0 x16_1).f0.f1) ((rd_T40 l0 x16_1).f0.f2) a1_0 a1_1 a1_2 t352 _ A9.out).mono ?_); rintro e w64 ⟨rfl, hb⟩; refine ⟨_, rfl, ?_⟩; replace BK349 := kf BK349 hb; replace BK351 := kp (cs' := #[.int .i64 ((rd_T40 l0 x16_1).f0.f0), .int .i64 ((rd_T40 l0 x16_1).f0.f1), .int .i64 ((rd_T40 l0 x16_1).f0.f2), .int .i64 ((rd_T40 l0 x16_1).f1), .int .i64 ((rd_T40 l0 x16_1).f2.f0), .slice A350_5 ((rd_T40 l0 x16_1).f2.f1).length c350_5, .int .i64 ((rd_T40 l0 x16_1).f2.f2.f0), .int .i64 ((rd_T40 l0 x16_1).f2.f2.f1), .int .i64 ((rd_T40 l0 x16_1).f2.f2.f2)]) BK351 hb; replace HB := bs HB hb; (try clear hb); (try clear hb2); (try clear hk); (try clear hi)))
       go_roundg k1
       case measure => have := HK1.out; omega
       case rel => exact ⟨(x9_1), (wrap64 (x16_1 + 1)), (by first | rfl | (simp; done) | (simp [*]; done)), (by first | rfl | (simp; done) | (simp [*]; done)), H', ⟨by have := HK1.out; omega⟩, ⟨PK BK349⟩, ⟨PB⟩⟩
     ·rw [if_neg c8] at H
      exact absurd H (by simp)
    ·rw [if_neg c7] at H
     exact absurd H (by simp)
   ·rw [if_neg c6] at H
    have c6b0 : decide (x16_1 < (l0.length : Int)) = false := decide_eq_false c6
    clear c6
    obtain rfl := Option.some.inj H
    go_wp2
    go_ret
    exact ⟨RT, PB⟩

end Go.Proofs.Ytgcamebeonodeaa.MFnNearest
