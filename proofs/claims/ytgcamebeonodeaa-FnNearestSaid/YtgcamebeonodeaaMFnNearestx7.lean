-- Written by a program of this session out of the translation's own print. Not trusted: Lean checks it.
import Derived.Test.YtgcamebeonodeaaShr2
import Derived.Test.YtgcamebeonodeaaMFnNearestx0
import Derived.Test.YtgcamebeonodeaaMFnNearestx4
import Derived.Test.YtgcamebeonodeaaMFnNearestx5
import Derived.Test.YtgcamebeonodeaaMFnNearestx6
namespace Go.Proofs.Ytgcamebeonodeaa.MFnNearest
open Go.RowKit Go.Proofs.YtgcamebeonodeaaW.PrintWords Go.Proofs.YtgcamebeonodeaaW.PrintLast Go.Proofs.YtgcamebeonodeaaW.PrintMore
attribute [local go_sem] max2_int min2_int max_two min_two max_three min_three max_four min_four   -- for this text's walks alone
set_option linter.unusedVariables false
set_option linter.unusedSimpArgs false

/-! ### impl_NearestAt: function 12 -/
def impl_NearestAt.j0 : Nat → List (S40) → Int → Bool → Int → Int → Int → Option (Int × Int)
  | 0, _, _, _, _, _, _ => none
  | k + 1, x0, x2, x16, x358000, x358001, x358002 => if x16 = true then (some (3, (-1))) else ((impl_nearest.f k x0 x358000 x358001 x358002 x2 0).bind fun t361 => (if t361 ≥ 0 then (if 0 ≤ t361 then (if t361 < (x0.length : Int) then (if ((rd_T40 x0 t361).f1) = x2 then (some (0, t361)) else (some (1, t361))) else (none)) else (none)) else ((impl_nearest.f k x0 x358000 x358001 x358002 x2 1).bind fun t363 => (if t363 ≥ 0 then (some (2, t363)) else (some (3, (-1)))))))
def impl_NearestAt.f (k : Nat) (l0 : List (S40)) (a1_0 : Int) (a1_1 : Int) (a1_2 : Int) (a2 : Int) : Option (Int × Int) := (impl_InRange.f a2 0 2000).bind fun t359 => (if t359 = true then ((impl_AreCaptures.f k l0).bind fun t360 => (impl_NearestAt.j0 k l0 a2 (!t360) a1_0 a1_1 a1_2)) else (impl_NearestAt.j0 k l0 a2 true a1_0 a1_1 a1_2))
set_option maxHeartbeats 8000000 in
set_option maxRecDepth 100000 in
theorem impl_NearestAt.calls (k : Nat) (A0 : Option Addr) (c0 : Nat) (l0 : List (S40)) (a1_0 : Int) (a1_1 : Int) (a1_2 : Int) (a2 : Int) (r1 : Int) (r2 : Int) (w : World) (hr0 : Kd.C k40 w A0 l0.length l0) (hc0 : l0.length ≤ c0) (h : impl_NearestAt.f k l0 a1_0 a1_1 a1_2 a2 = some (r1, r2)) :
  Calls Try.prog 12 #[.slice A0 l0.length c0, .agg #[.int .i64 a1_0, .int .i64 a1_1, .int .i64 a1_2], .int .i64 a2] w fun e w' => e = .returned (.agg #[.int .i64 r1, .int .i64 r2]) ∧ Below w.heap.size w w' := by
 have hu26 := Try.underlying26
 have hu30 := Try.underlying30
 have HR0 := Aside0.mk hr0
 have HC0 := Aside0.mk hc0
 clear hr0 hc0
 have HB := ak (Below.refl w.heap.size w)
 have H : ((impl_InRange.f a2 0 2000).bind fun t359 => (if t359 = true then ((impl_AreCaptures.f k l0).bind fun t360 => (impl_NearestAt.j0 k l0 a2 (!t360) a1_0 a1_1 a1_2)) else (impl_NearestAt.j0 k l0 a2 true a1_0 a1_1 a1_2))) = some (r1, r2) := h
 clear h
 have HC4 := Aside0.mk H
 clear H
 go_enter Try.func12, Try.ntmps12
 go_upto_region 1 with (first | ((with_reducible refine gate_dst (N := 4) rfl ?_); refine bx_ (N := 4) #[.int .i64 a1_0, .int .i64 a1_1, .int .i64 a1_2] 26 ?_; intro gb357 hg w5 hbox hb; have BK357 := ak hbox; have GW357 := gy hg HB; have GE357 := gy hg HB; replace HB := bs HB hb; clear hb hbox hg) | ((with_reducible refine gate_dst (N := 6) rfl ?_); refine bx_ (N := 6) #[.int .i64 0, .int .i64 0] 30 ?_; intro gb358 hg w6 hbox hb; have BK358 := ak hbox; have GW358 := gy hg HB; have GE358 := gy hg HB; replace HB := bs HB hb; have NB357_358 := gm hg BK357; have NB358_357 := gn hg BK357; replace BK357 := kf BK357 hb; clear hb hbox hg))
 (try simp only [Act.put, List.setIfInBounds_toArray, List.set_cons_zero, List.set_cons_succ])
 go_cut [16] (fun v16 wc => ∃ (kq : Nat) (x16_3 : Bool), v16 = .bool x16_3 ∧ Aside0 (impl_NearestAt.j0 kq l0 a2 x16_3 a1_0 a1_1 a1_2 = some (r1, r2)) ∧ Aside0 (kq ≤ k) ∧ Aside0 (wc.heap[gb357]? = some (.cells #[.int .i64 a1_0, .int .i64 a1_1, .int .i64 a1_2] 26 (0, 0))) ∧ Aside0 (wc.heap[gb358]? = some (.cells #[.int .i64 0, .int .i64 0] 30 (0, 0))) ∧ Aside0 (Below w.heap.size w wc))
 case first =>
  have H := HC4.out
  clear HC4
  replace H := Option.bind_eq_some_iff.mp H
  obtain ⟨t359, A70, H⟩ := H
  replace H : (if t359 = true then ((impl_AreCaptures.f k l0).bind fun t360 => (impl_NearestAt.j0 k l0 a2 (!t360) a1_0 a1_1 a1_2)) else (impl_NearestAt.j0 k l0 a2 true a1_0 a1_1 a1_2)) = some (r1, r2) := H
  have A7 := Aside0.mk A70
  clear A70
  by_cases c8 : t359 = true
  ·subst c8
   have H1 : ((impl_AreCaptures.f k l0).bind fun t360 => (impl_NearestAt.j0 k l0 a2 (!t360) a1_0 a1_1 a1_2)) = some (r1, r2) := by rw [if_pos rfl] at H; exact H
   clear H
   have H := H1
   clear H1
   replace H := Option.bind_eq_some_iff.mp H
   obtain ⟨t360, A90, H⟩ := H
   replace H : (impl_NearestAt.j0 k l0 a2 (!t360) a1_0 a1_1 a1_2) = some (r1, r2) := H
   have A9 := Aside0.mk A90
   clear A90
   have H' := Aside0.mk H
   clear H
   go_wp2_with (first | ((with_reducible refine gate_callee (f := 69) rfl ?_); refine goesL_ (some 10) rfl rfl Try.func69 KR rfl #[.int .i64 a2, .int .i64 0, .int .i64 2000] rfl AR ?_; (with_reducible refine (impl_InRange.calls a2 0 2000 true _ A7.out).mono ?_); rintro e w' ⟨rfl, ⟨nd, rfl⟩⟩; refine ⟨_, rfl, ?_⟩) | (go_at_call 14; (with_reducible refine (impl_AreCaptures.calls k _ _ l0 t360 _ ?side1 ?side2 A9.out).mono ?_); (case side1 => repeat (first | exact (Kd.C_below HR0.out PB) | (with_reducible refine Kd.C_alloc ?_ _) | (with_reducible refine Kd.C_drewN ?_ _) | (with_reducible refine Kd.C_drew ?_))); (case side2 => exact HC0.out); rintro e w10 ⟨rfl, hb⟩; replace BK357 := kf BK357 hb; replace BK358 := kf BK358 hb; replace HB := bs HB hb; (try clear hb); (try clear hb2); (try clear hk); (try clear hi)))
   go_meet
   case rel => exact ⟨_, (!t360), (by first | rfl | (simp; done) | (simp [*]; done)), H', ⟨by first | omega | exact Nat.le_refl _⟩, ⟨PK BK357⟩, ⟨PK BK358⟩, ⟨PB⟩⟩
  ·replace c8 := Bool.eq_false_iff.mpr c8
   subst c8
   have H1 : (impl_NearestAt.j0 k l0 a2 true a1_0 a1_1 a1_2) = some (r1, r2) := by rw [if_neg (show ¬ (false = true) by decide)] at H; exact H
   clear H
   have H := H1
   clear H1
   have H' := Aside0.mk H
   clear H
   go_wp2_with (first | ((with_reducible refine gate_callee (f := 69) rfl ?_); refine goesL_ (some 10) rfl rfl Try.func69 KR rfl #[.int .i64 a2, .int .i64 0, .int .i64 2000] rfl AR ?_; (with_reducible refine (impl_InRange.calls a2 0 2000 false _ A7.out).mono ?_); rintro e w' ⟨rfl, ⟨nd, rfl⟩⟩; refine ⟨_, rfl, ?_⟩))
   go_meet
   case rel => exact ⟨_, (true), (by first | rfl | (simp; done) | (simp [*]; done)), H', ⟨by first | omega | exact Nat.le_refl _⟩, ⟨PK BK357⟩, ⟨PK BK358⟩, ⟨PB⟩⟩
 case rest =>
  clear HC4
  (try clear c1); (try clear p2); (try clear c6); (try clear c8)
  obtain ⟨kq, x16_3, rfl, HA, HJ3, BK357, BK358, HB⟩ := hcut
  cases kq with
  | zero => exact absurd HA.out (by simp [impl_NearestAt.j0])
  | succ kj3 =>
   have H := HA.out
   clear HA
   simp only [impl_NearestAt.j0] at H
   by_cases c11 : x16_3 = true
   ·subst c11
    have H1 : (some (3, (-1))) = some (r1, r2) := by rw [if_pos rfl] at H; exact H
    clear H
    have H := H1
    clear H1
    simp only [Option.some.injEq, Prod.mk.injEq] at H
    obtain ⟨rfl, rfl⟩ := H
    have hnb12 := NB358_357.out
    have hnc12 := NB357_358.out
    obtain ⟨hcz13_0, hcz13_1, hfz13_0, hfz13_1⟩ := bc2 BK358
    go_wp2
    refine bodyPost_ret (results_cell_row rfl _ _ gb358 30 #[.int .i64 3, .int .i64 (-1)] (0, 0) _ rfl (PX BK358) Try.underlying30 rfl KR) rfl ?_
    exact ⟨RT, PB⟩
   ·replace c11 := Bool.eq_false_iff.mpr c11
    subst c11
    have H1 : ((impl_nearest.f kj3 l0 a1_0 a1_1 a1_2 a2 0).bind fun t361 => (if t361 ≥ 0 then (if 0 ≤ t361 then (if t361 < (l0.length : Int) then (if ((rd_T40 l0 t361).f1) = a2 then (some (0, t361)) else (some (1, t361))) else (none)) else (none)) else ((impl_nearest.f kj3 l0 a1_0 a1_1 a1_2 a2 1).bind fun t363 => (if t363 ≥ 0 then (some (2, t363)) else (some (3, (-1))))))) = some (r1, r2) := by rw [if_neg (show ¬ (false = true) by decide)] at H; exact H
    clear H
    have H := H1
    clear H1
    replace H := Option.bind_eq_some_iff.mp H
    obtain ⟨t361, A140, H⟩ := H
    replace H : (if t361 ≥ 0 then (if 0 ≤ t361 then (if t361 < (l0.length : Int) then (if ((rd_T40 l0 t361).f1) = a2 then (some (0, t361)) else (some (1, t361))) else (none)) else (none)) else ((impl_nearest.f kj3 l0 a1_0 a1_1 a1_2 a2 1).bind fun t363 => (if t363 ≥ 0 then (some (2, t363)) else (some (3, (-1)))))) = some (r1, r2) := H
    have A14 := Aside0.mk A140
    clear A140
    by_cases c15 : t361 ≥ 0
    ·rw [if_pos c15] at H
     have c15b0 : decide (0 ≤ t361) = true := decide_eq_true c15
     clear c15
     by_cases c16 : 0 ≤ t361
     ·rw [if_pos c16] at H
      have c16b0 : decide (0 ≤ t361) = true := decide_eq_true c16
      clear c16
      by_cases c17 : t361 < (l0.length : Int)
      ·rw [if_pos c17] at H
       have c17b0 : decide (t361 < (l0.length : Int)) = true := decide_eq_true c17
       clear c17
       by_cases c18 : ((rd_T40 l0 t361).f1) = a2
       ·rw [if_pos c18] at H
        have c18b0 : (((rd_T40 l0 t361).f1) == a2) = true := beq_iff_eq.mpr c18
        have c18b1 : (((rd_T40 l0 t361).f1) != a2) = false := bne_eq_false_iff_eq.mpr c18
        clear c18
        simp only [Option.some.injEq, Prod.mk.injEq] at H
        obtain ⟨rfl, rfl⟩ := H
        have hnb19 := NB357_358.out
        have hnc19 := NB358_357.out
        obtain ⟨_, _, _, _, _, _⟩ := bc3 BK357
        go_wp2_with (first | ((with_reducible refine gate_callee (f := 70) rfl ?_); refine goesL_ (some 21) rfl rfl Try.func70 KR rfl #[.slice A0 l0.length c0, .agg #[.int .i64 a1_0, .int .i64 a1_1, .int .i64 a1_2], .int .i64 a2, .int .i64 0] rfl AR ?_; (with_reducible refine (impl_nearest.calls kj3 _ _ l0 a1_0 a1_1 a1_2 a2 0 t361 _ ?side1 ?side2 A14.out).mono ?_); (case side1 => exact CR (Kd.C_below HR0.out HB.out)); (case side2 => exact HC0.out); rintro e w21 ⟨rfl, hb⟩; refine ⟨_, rfl, ?_⟩; replace BK357 := kf BK357 hb; replace BK358 := kf BK358 hb; replace HB := bs HB hb; (try clear hb); (try clear hb2); (try clear hk); (try clear hi); have p362 : 0 ≤ (t361 : Int) := of_decide_eq_true (by first | (with_reducible assumption) | assumption); have q362 : t361 < (l0.length : Int) := of_decide_eq_true (by first | (with_reducible assumption) | assumption); obtain ⟨ad362, A362_5, c362_5, e362, hx362_0, hx362_1, hx362_2, hx362_3, hx362_4, hx362_5, hx362_6, hx362_7, hx362_8, hl362_5, hi362_5⟩ := at_T40 HR0.out t361 p362 q362; cases e362; replace hx362_0 := hx_ HB hx362_0; replace hx362_1 := hx_ HB hx362_1; replace hx362_2 := hx_ HB hx362_2; replace hx362_3 := hx_ HB hx362_3; replace hx362_4 := hx_ HB hx362_4; replace hx362_5 := hx_ HB hx362_5; replace hx362_6 := hx_ HB hx362_6; replace hx362_7 := hx_ HB hx362_7; replace hx362_8 := hx_ HB hx362_8; have HR362_5 := Aside0.mk hi362_5; have HC362_5 := Aside0.mk hl362_5; clear hi362_5 hl362_5; replace p362 := eq_true p362; replace q362 := eq_true q362; obtain ⟨_, _, _, _⟩ := bc2 BK358))
        refine bodyPost_ret (results_cell_row rfl _ _ gb358 30 #[.int .i64 0, .int .i64 t361] (0, 0) _ rfl (PX BK358) Try.underlying30 rfl KR) rfl ?_
        exact ⟨RT, PB⟩
       ·rw [if_neg c18] at H
        have c18b0 : (((rd_T40 l0 t361).f1) == a2) = false := beq_eq_false_iff_ne.mpr c18
        have c18b1 : (((rd_T40 l0 t361).f1) != a2) = true := bne_iff_ne.mpr c18
        simp only [Option.some.injEq, Prod.mk.injEq] at H
        obtain ⟨rfl, rfl⟩ := H
        have hnb23 := NB357_358.out
        have hnc23 := NB358_357.out
        obtain ⟨_, _, _, _, _, _⟩ := bc3 BK357
        go_wp2_with (first | ((with_reducible refine gate_callee (f := 70) rfl ?_); refine goesL_ (some 21) rfl rfl Try.func70 KR rfl #[.slice A0 l0.length c0, .agg #[.int .i64 a1_0, .int .i64 a1_1, .int .i64 a1_2], .int .i64 a2, .int .i64 0] rfl AR ?_; (with_reducible refine (impl_nearest.calls kj3 _ _ l0 a1_0 a1_1 a1_2 a2 0 t361 _ ?side1 ?side2 A14.out).mono ?_); (case side1 => exact CR (Kd.C_below HR0.out HB.out)); (case side2 => exact HC0.out); rintro e w25 ⟨rfl, hb⟩; refine ⟨_, rfl, ?_⟩; replace BK357 := kf BK357 hb; replace BK358 := kf BK358 hb; replace HB := bs HB hb; (try clear hb); (try clear hb2); (try clear hk); (try clear hi); have p362 : 0 ≤ (t361 : Int) := of_decide_eq_true (by first | (with_reducible assumption) | assumption); have q362 : t361 < (l0.length : Int) := of_decide_eq_true (by first | (with_reducible assumption) | assumption); obtain ⟨ad362, A362_5, c362_5, e362, hx362_0, hx362_1, hx362_2, hx362_3, hx362_4, hx362_5, hx362_6, hx362_7, hx362_8, hl362_5, hi362_5⟩ := at_T40 HR0.out t361 p362 q362; cases e362; replace hx362_0 := hx_ HB hx362_0; replace hx362_1 := hx_ HB hx362_1; replace hx362_2 := hx_ HB hx362_2; replace hx362_3 := hx_ HB hx362_3; replace hx362_4 := hx_ HB hx362_4; replace hx362_5 := hx_ HB hx362_5; replace hx362_6 := hx_ HB hx362_6; replace hx362_7 := hx_ HB hx362_7; replace hx362_8 := hx_ HB hx362_8; have HR362_5 := Aside0.mk hi362_5; have HC362_5 := Aside0.mk hl362_5; clear hi362_5 hl362_5; replace p362 := eq_true p362; replace q362 := eq_true q362; obtain ⟨_, _, _, _⟩ := bc2 BK358))
        refine bodyPost_ret (results_cell_row rfl _ _ gb358 30 #[.int .i64 1, .int .i64 t361] (0, 0) _ rfl (PX BK358) Try.underlying30 rfl KR) rfl ?_
        exact ⟨RT, PB⟩
      ·rw [if_neg c17] at H
       exact absurd H (by simp)
     ·rw [if_neg c16] at H
      exact absurd H (by simp)
    ·rw [if_neg c15] at H
     have c15b0 : decide (0 ≤ t361) = false := decide_eq_false c15
     clear c15
     replace H := Option.bind_eq_some_iff.mp H
     obtain ⟨t363, A270, H⟩ := H
     replace H : (if t363 ≥ 0 then (some (2, t363)) else (some (3, (-1)))) = some (r1, r2) := H
     have A27 := Aside0.mk A270
     clear A270
     by_cases c28 : t363 ≥ 0
     ·rw [if_pos c28] at H
      have c28b0 : decide (0 ≤ t363) = true := decide_eq_true c28
      clear c28
      simp only [Option.some.injEq, Prod.mk.injEq] at H
      obtain ⟨rfl, rfl⟩ := H
      have hnb29 := NB357_358.out
      have hnc29 := NB358_357.out
      obtain ⟨_, _, _, _, _, _⟩ := bc3 BK357
      go_wp2_with (first | ((with_reducible refine gate_callee (f := 70) rfl ?_); refine goesL_ (some 21) rfl rfl Try.func70 KR rfl #[.slice A0 l0.length c0, .agg #[.int .i64 a1_0, .int .i64 a1_1, .int .i64 a1_2], .int .i64 a2, .int .i64 0] rfl AR ?_; (with_reducible refine (impl_nearest.calls kj3 _ _ l0 a1_0 a1_1 a1_2 a2 0 t361 _ ?side1 ?side2 A14.out).mono ?_); (case side1 => exact CR (Kd.C_below HR0.out HB.out)); (case side2 => exact HC0.out); rintro e w31 ⟨rfl, hb⟩; refine ⟨_, rfl, ?_⟩; replace BK357 := kf BK357 hb; replace BK358 := kf BK358 hb; replace HB := bs HB hb; (try clear hb); (try clear hb2); (try clear hk); (try clear hi); obtain ⟨_, _, _, _, _, _⟩ := bc3 BK357) | ((with_reducible refine gate_callee (f := 70) rfl ?_); refine goesL_ (some 38) rfl rfl Try.func70 KR rfl #[.slice A0 l0.length c0, .agg #[.int .i64 a1_0, .int .i64 a1_1, .int .i64 a1_2], .int .i64 a2, .int .i64 1] rfl AR ?_; (with_reducible refine (impl_nearest.calls kj3 _ _ l0 a1_0 a1_1 a1_2 a2 1 t363 _ ?side1 ?side2 A27.out).mono ?_); (case side1 => exact CR (Kd.C_below HR0.out HB.out)); (case side2 => exact HC0.out); rintro e w33 ⟨rfl, hb⟩; refine ⟨_, rfl, ?_⟩; replace BK357 := kf BK357 hb; replace BK358 := kf BK358 hb; replace HB := bs HB hb; (try clear hb); (try clear hb2); (try clear hk); (try clear hi); obtain ⟨_, _, _, _⟩ := bc2 BK358))
      refine bodyPost_ret (results_cell_row rfl _ _ gb358 30 #[.int .i64 2, .int .i64 t363] (0, 0) _ rfl (PX BK358) Try.underlying30 rfl KR) rfl ?_
      exact ⟨RT, PB⟩
     ·rw [if_neg c28] at H
      have c28b0 : decide (0 ≤ t363) = false := decide_eq_false c28
      clear c28
      simp only [Option.some.injEq, Prod.mk.injEq] at H
      obtain ⟨rfl, rfl⟩ := H
      have hnb35 := NB357_358.out
      have hnc35 := NB358_357.out
      obtain ⟨_, _, _, _, _, _⟩ := bc3 BK357
      go_wp2_with (first | ((with_reducible refine gate_callee (f := 70) rfl ?_); refine goesL_ (some 21) rfl rfl Try.func70 KR rfl #[.slice A0 l0.length c0, .agg #[.int .i64 a1_0, .int .i64 a1_1, .int .i64 a1_2], .int .i64 a2, .int .i64 0] rfl AR ?_; (with_reducible refine (impl_nearest.calls kj3 _ _ l0 a1_0 a1_1 a1_2 a2 0 t361 _ ?side1 ?side2 A14.out).mono ?_); (case side1 => exact CR (Kd.C_below HR0.out HB.out)); (case side2 => exact HC0.out); rintro e w37 ⟨rfl, hb⟩; refine ⟨_, rfl, ?_⟩; replace BK357 := kf BK357 hb; replace BK358 := kf BK358 hb; replace HB := bs HB hb; (try clear hb); (try clear hb2); (try clear hk); (try clear hi); obtain ⟨_, _, _, _, _, _⟩ := bc3 BK357) | ((with_reducible refine gate_callee (f := 70) rfl ?_); refine goesL_ (some 38) rfl rfl Try.func70 KR rfl #[.slice A0 l0.length c0, .agg #[.int .i64 a1_0, .int .i64 a1_1, .int .i64 a1_2], .int .i64 a2, .int .i64 1] rfl AR ?_; (with_reducible refine (impl_nearest.calls kj3 _ _ l0 a1_0 a1_1 a1_2 a2 1 t363 _ ?side1 ?side2 A27.out).mono ?_); (case side1 => exact CR (Kd.C_below HR0.out HB.out)); (case side2 => exact HC0.out); rintro e w39 ⟨rfl, hb⟩; refine ⟨_, rfl, ?_⟩; replace BK357 := kf BK357 hb; replace BK358 := kf BK358 hb; replace HB := bs HB hb; (try clear hb); (try clear hb2); (try clear hk); (try clear hi); obtain ⟨_, _, _, _⟩ := bc2 BK358))
      refine bodyPost_ret (results_cell_row rfl _ _ gb358 30 #[.int .i64 3, .int .i64 (-1)] (0, 0) _ rfl (PX BK358) Try.underlying30 rfl KR) rfl ?_
      exact ⟨RT, PB⟩

/-! ### impl_at: function 71 -/
def impl_at.f (a0 : Int) (a1 : Int) : Option (Bool) := if a0 ≥ 0 then (some (decide (a0 < a1))) else (some false)
set_option maxHeartbeats 8000000 in
set_option maxRecDepth 100000 in
theorem impl_at.calls (a0 : Int) (a1 : Int) (r : Bool) (w : World) (h : impl_at.f a0 a1 = some r) :
  Calls Try.prog 71 #[.int .i64 a0, .int .i64 a1] w fun e w' => e = .returned (.bool r) ∧ Drawn0 w w' := by
 have H : (if a0 ≥ 0 then (some (decide (a0 < a1))) else (some false)) = some r := h
 clear h
 by_cases c3 : a0 ≥ 0
 ·rw [if_pos c3] at H
  have c3b0 : decide (0 ≤ a0) = true := decide_eq_true c3
  clear c3
  obtain rfl := Option.some.inj H
  go_enter Try.func71, Try.ntmps71
  go_wp2
  go_ret
  exact ⟨by first | rfl | (simp; done) | (simp [*]; done), by repeat (first | exact Drawn0.refl _ | apply Drawn0.step)⟩
 ·rw [if_neg c3] at H
  have c3b0 : decide (0 ≤ a0) = false := decide_eq_false c3
  clear c3
  obtain rfl := Option.some.inj H
  go_enter Try.func71, Try.ntmps71
  go_wp2
  go_ret
  exact ⟨by first | rfl | (simp; done) | (simp [*]; done), by repeat (first | exact Drawn0.refl _ | apply Drawn0.step)⟩

/-! ### impl_RuleName: function 13 -/
def impl_RuleName.f (a0 : Int) : Option (ByteArray) := (some (([(⟨#[101, 120, 97, 99, 116]⟩ : ByteArray), (⟨#[116, 105, 109, 101]⟩ : ByteArray), (⟨#[113, 117, 101, 114, 121]⟩ : ByteArray), (⟨#[109, 105, 115, 115, 105, 110, 103]⟩ : ByteArray)] : List ByteArray) : List ByteArray)).bind fun y364 => ((impl_at.f a0 (y364.length : Int)).bind fun t367 => (if t367 = true then (if 0 ≤ a0 then (if a0 < (y364.length : Int) then (some (rdOf ByteArray.empty y364 a0)) else (none)) else (none)) else (some (⟨#[]⟩ : ByteArray))))
set_option maxHeartbeats 8000000 in
set_option maxRecDepth 100000 in
theorem impl_RuleName.calls (a0 : Int) (r : ByteArray) (w : World) (h : impl_RuleName.f a0 = some r) :
  Calls Try.prog 13 #[.int .i64 a0] w fun e w' => e = .returned (.string r) ∧ Below w.heap.size w w' := by
 have HB := ak (Below.refl w.heap.size w)
 have H : ((some (([(⟨#[101, 120, 97, 99, 116]⟩ : ByteArray), (⟨#[116, 105, 109, 101]⟩ : ByteArray), (⟨#[113, 117, 101, 114, 121]⟩ : ByteArray), (⟨#[109, 105, 115, 115, 105, 110, 103]⟩ : ByteArray)] : List ByteArray) : List ByteArray)).bind fun y364 => ((impl_at.f a0 (y364.length : Int)).bind fun t367 => (if t367 = true then (if 0 ≤ a0 then (if a0 < (y364.length : Int) then (some (rdOf ByteArray.empty y364 a0)) else (none)) else (none)) else (some (⟨#[]⟩ : ByteArray))))) = some r := h
 clear h
 obtain ⟨y364, hy364⟩ : ∃ y_ : List ByteArray, y_ = (([(⟨#[101, 120, 97, 99, 116]⟩ : ByteArray), (⟨#[116, 105, 109, 101]⟩ : ByteArray), (⟨#[113, 117, 101, 114, 121]⟩ : ByteArray), (⟨#[109, 105, 115, 115, 105, 110, 103]⟩ : ByteArray)] : List ByteArray)) := ⟨_, rfl⟩
 replace H : ((impl_at.f a0 (y364.length : Int)).bind fun t367 => (if t367 = true then (if 0 ≤ a0 then (if a0 < (y364.length : Int) then (some (rdOf ByteArray.empty y364 a0)) else (none)) else (none)) else (some (⟨#[]⟩ : ByteArray)))) = some r := by first | (rw [hy364]; with_reducible exact H) | (have H2_ := (Option.bind_some _ _).symm.trans H; rw [hy364]; with_reducible exact H2_) | (have H2_ := (Option.bind_some _ _).symm.trans H; with_reducible exact H2_) | with_reducible exact H | (rw [hy364]; exact H) | exact H
 have Ny364 := Aside0.mk hy364
 clear hy364
 replace H := Option.bind_eq_some_iff.mp H
 obtain ⟨t367, A20, H⟩ := H
 replace H : (if t367 = true then (if 0 ≤ a0 then (if a0 < (y364.length : Int) then (some (rdOf ByteArray.empty y364 a0)) else (none)) else (none)) else (some (⟨#[]⟩ : ByteArray))) = some r := H
 have A2 := Aside0.mk A20
 clear A20
 by_cases c3 : t367 = true
 ·subst c3
  have H1 : (if 0 ≤ a0 then (if a0 < (y364.length : Int) then (some (rdOf ByteArray.empty y364 a0)) else (none)) else (none)) = some r := by rw [if_pos rfl] at H; exact H
  clear H
  have H := H1
  clear H1
  by_cases c4 : 0 ≤ a0
  ·rw [if_pos c4] at H
   have c4b0 : decide (0 ≤ a0) = true := decide_eq_true c4
   clear c4
   by_cases c5 : a0 < (y364.length : Int)
   ·rw [if_pos c5] at H
    have c5b0 : decide (a0 < (y364.length : Int)) = true := decide_eq_true c5
    clear c5
    obtain rfl := Option.some.inj H
    go_enter Try.func13, Try.ntmps13
    go_wp2_with (first | ((with_reducible refine gate_dst (N := 4) rfl ?_); refine Kd.R_lit Kd.string _ 9 ?hg (N := 4) ?hd (xs := ([(⟨#[101, 120, 97, 99, 116]⟩ : ByteArray), (⟨#[116, 105, 109, 101]⟩ : ByteArray), (⟨#[113, 117, 101, 114, 121]⟩ : ByteArray), (⟨#[109, 105, 115, 115, 105, 110, 103]⟩ : ByteArray)] : List ByteArray)) (inner := [.string (⟨#[101, 120, 97, 99, 116]⟩ : ByteArray), .string (⟨#[116, 105, 109, 101]⟩ : ByteArray), .string (⟨#[113, 117, 101, 114, 121]⟩ : ByteArray), .string (⟨#[109, 105, 115, 115, 105, 110, 103]⟩ : ByteArray)]) (ok := fun _ => True) (okp := fun _ => True) ?hr ?hp (fun _ hk => hk) trivial (Below.refl _ _) (Nat.le_refl _) (by simp) ?_; (case hd => rfl); (case hg => rfl); (case hr => first | (go_simp; done) | (go_simp; rfl)); (case hp => exact (Reps.one (show Kd.M Kd.string _ _ _ (⟨#[101, 120, 97, 99, 116]⟩ : ByteArray) [.string (⟨#[101, 120, 97, 99, 116]⟩ : ByteArray)] from rfl) (Reps.one (show Kd.M Kd.string _ _ _ (⟨#[116, 105, 109, 101]⟩ : ByteArray) [.string (⟨#[116, 105, 109, 101]⟩ : ByteArray)] from rfl) (Reps.one (show Kd.M Kd.string _ _ _ (⟨#[113, 117, 101, 114, 121]⟩ : ByteArray) [.string (⟨#[113, 117, 101, 114, 121]⟩ : ByteArray)] from rfl) (Reps.one (show Kd.M Kd.string _ _ _ (⟨#[109, 105, 115, 115, 105, 110, 103]⟩ : ByteArray) [.string (⟨#[109, 105, 115, 115, 105, 110, 103]⟩ : ByteArray)] from rfl) (Reps.none _ _)))))); intro v365 w6 ho7 hb hg_ hnew_; clear hg_ hnew_; (first | rw [← Ny364.out] at ho7 | (simp only [Int.reduceToNat] at ho7; rw [← Ny364.out] at ho7)); have HO366 := Rn0 ho7 HB; replace HB := bs HB hb; clear hb ho7; obtain ⟨Ao8, co8, eo8⟩ := Kd.R_slice HO366.out; subst eo8) | ((with_reducible refine gate_callee (f := 71) rfl ?_); refine goesL_ (some 8) rfl rfl Try.func71 KR rfl #[.int .i64 a0, .int .i64 (y364.length : Int)] rfl AR ?_; (with_reducible refine (impl_at.calls a0 (y364.length : Int) true _ A2.out).mono ?_); rintro e w' ⟨rfl, ⟨nd, rfl⟩⟩; refine ⟨_, rfl, ?_⟩; have p368 : 0 ≤ (a0 : Int) := of_decide_eq_true (by first | (with_reducible assumption) | assumption); have q368 : a0 < (y364.length : Int) := of_decide_eq_true (by first | (with_reducible assumption) | assumption); obtain ⟨ad368, e368, hx368_0⟩ := Kd.at_string (Kd.R_reads' HO366.out).2.2 a0 p368 q368; cases e368; replace p368 := eq_true p368; replace q368 := eq_true q368))
    go_ret
    exact ⟨RT, PB⟩
   ·rw [if_neg c5] at H
    exact absurd H (by simp)
  ·rw [if_neg c4] at H
   exact absurd H (by simp)
 ·replace c3 := Bool.eq_false_iff.mpr c3
  subst c3
  have H1 : (some (⟨#[]⟩ : ByteArray)) = some r := by rw [if_neg (show ¬ (false = true) by decide)] at H; exact H
  clear H
  have H := H1
  clear H1
  obtain rfl := Option.some.inj H
  go_enter Try.func13, Try.ntmps13
  go_wp2_with (first | ((with_reducible refine gate_dst (N := 4) rfl ?_); refine Kd.R_lit Kd.string _ 9 ?hg (N := 4) ?hd (xs := ([(⟨#[101, 120, 97, 99, 116]⟩ : ByteArray), (⟨#[116, 105, 109, 101]⟩ : ByteArray), (⟨#[113, 117, 101, 114, 121]⟩ : ByteArray), (⟨#[109, 105, 115, 115, 105, 110, 103]⟩ : ByteArray)] : List ByteArray)) (inner := [.string (⟨#[101, 120, 97, 99, 116]⟩ : ByteArray), .string (⟨#[116, 105, 109, 101]⟩ : ByteArray), .string (⟨#[113, 117, 101, 114, 121]⟩ : ByteArray), .string (⟨#[109, 105, 115, 115, 105, 110, 103]⟩ : ByteArray)]) (ok := fun _ => True) (okp := fun _ => True) ?hr ?hp (fun _ hk => hk) trivial (Below.refl _ _) (Nat.le_refl _) (by simp) ?_; (case hd => rfl); (case hg => rfl); (case hr => first | (go_simp; done) | (go_simp; rfl)); (case hp => exact (Reps.one (show Kd.M Kd.string _ _ _ (⟨#[101, 120, 97, 99, 116]⟩ : ByteArray) [.string (⟨#[101, 120, 97, 99, 116]⟩ : ByteArray)] from rfl) (Reps.one (show Kd.M Kd.string _ _ _ (⟨#[116, 105, 109, 101]⟩ : ByteArray) [.string (⟨#[116, 105, 109, 101]⟩ : ByteArray)] from rfl) (Reps.one (show Kd.M Kd.string _ _ _ (⟨#[113, 117, 101, 114, 121]⟩ : ByteArray) [.string (⟨#[113, 117, 101, 114, 121]⟩ : ByteArray)] from rfl) (Reps.one (show Kd.M Kd.string _ _ _ (⟨#[109, 105, 115, 115, 105, 110, 103]⟩ : ByteArray) [.string (⟨#[109, 105, 115, 115, 105, 110, 103]⟩ : ByteArray)] from rfl) (Reps.none _ _)))))); intro v365 w9 ho10 hb hg_ hnew_; clear hg_ hnew_; (first | rw [← Ny364.out] at ho10 | (simp only [Int.reduceToNat] at ho10; rw [← Ny364.out] at ho10)); have HO366 := Rn0 ho10 HB; replace HB := bs HB hb; clear hb ho10; obtain ⟨Ao11, co11, eo11⟩ := Kd.R_slice HO366.out; subst eo11) | ((with_reducible refine gate_callee (f := 71) rfl ?_); refine goesL_ (some 8) rfl rfl Try.func71 KR rfl #[.int .i64 a0, .int .i64 (y364.length : Int)] rfl AR ?_; (with_reducible refine (impl_at.calls a0 (y364.length : Int) false _ A2.out).mono ?_); rintro e w' ⟨rfl, ⟨nd, rfl⟩⟩; refine ⟨_, rfl, ?_⟩))
  go_ret
  exact ⟨RT, PB⟩

/-! ### impl_TimeOff: function 15 -/
def impl_TimeOff.f (l0 : List (S40)) (a1_0 : Int) (a1_1 : Int) (a2 : Int) : Option (Int) := (impl_at.f a1_1 (l0.length : Int)).bind fun t370 => (if t370 = true then ((impl_InRange.f a2 0 2000).bind fun t371 => (if t371 = true then (if 0 ≤ a1_1 then (if a1_1 < (l0.length : Int) then ((impl_InRange.f ((rd_T40 l0 a1_1).f1) 0 2000).bind fun t373 => (if t373 = true then ((impl_distance.f ((rd_T40 l0 a1_1).f1) a2).bind fun t375 => (some t375)) else (some 0))) else (none)) else (none)) else (some 0))) else (some 0))
set_option maxHeartbeats 8000000 in
set_option maxRecDepth 100000 in
theorem impl_TimeOff.calls (A0 : Option Addr) (c0 : Nat) (l0 : List (S40)) (a1_0 : Int) (a1_1 : Int) (a2 : Int) (r : Int) (w : World) (hr0 : Kd.C k40 w A0 l0.length l0) (hc0 : l0.length ≤ c0) (h : impl_TimeOff.f l0 a1_0 a1_1 a2 = some r) :
  Calls Try.prog 15 #[.slice A0 l0.length c0, .agg #[.int .i64 a1_0, .int .i64 a1_1], .int .i64 a2] w fun e w' => e = .returned (.int .i64 r) ∧ Below w.heap.size w w' := by
 have hu30 := Try.underlying30
 have HR0 := Aside0.mk hr0
 have HC0 := Aside0.mk hc0
 clear hr0 hc0
 have HB := ak (Below.refl w.heap.size w)
 have H : ((impl_at.f a1_1 (l0.length : Int)).bind fun t370 => (if t370 = true then ((impl_InRange.f a2 0 2000).bind fun t371 => (if t371 = true then (if 0 ≤ a1_1 then (if a1_1 < (l0.length : Int) then ((impl_InRange.f ((rd_T40 l0 a1_1).f1) 0 2000).bind fun t373 => (if t373 = true then ((impl_distance.f ((rd_T40 l0 a1_1).f1) a2).bind fun t375 => (some t375)) else (some 0))) else (none)) else (none)) else (some 0))) else (some 0))) = some r := h
 clear h
 replace H := Option.bind_eq_some_iff.mp H
 obtain ⟨t370, A40, H⟩ := H
 replace H : (if t370 = true then ((impl_InRange.f a2 0 2000).bind fun t371 => (if t371 = true then (if 0 ≤ a1_1 then (if a1_1 < (l0.length : Int) then ((impl_InRange.f ((rd_T40 l0 a1_1).f1) 0 2000).bind fun t373 => (if t373 = true then ((impl_distance.f ((rd_T40 l0 a1_1).f1) a2).bind fun t375 => (some t375)) else (some 0))) else (none)) else (none)) else (some 0))) else (some 0)) = some r := H
 have A4 := Aside0.mk A40
 clear A40
 by_cases c5 : t370 = true
 ·subst c5
  have H1 : ((impl_InRange.f a2 0 2000).bind fun t371 => (if t371 = true then (if 0 ≤ a1_1 then (if a1_1 < (l0.length : Int) then ((impl_InRange.f ((rd_T40 l0 a1_1).f1) 0 2000).bind fun t373 => (if t373 = true then ((impl_distance.f ((rd_T40 l0 a1_1).f1) a2).bind fun t375 => (some t375)) else (some 0))) else (none)) else (none)) else (some 0))) = some r := by rw [if_pos rfl] at H; exact H
  clear H
  have H := H1
  clear H1
  replace H := Option.bind_eq_some_iff.mp H
  obtain ⟨t371, A60, H⟩ := H
  replace H : (if t371 = true then (if 0 ≤ a1_1 then (if a1_1 < (l0.length : Int) then ((impl_InRange.f ((rd_T40 l0 a1_1).f1) 0 2000).bind fun t373 => (if t373 = true then ((impl_distance.f ((rd_T40 l0 a1_1).f1) a2).bind fun t375 => (some t375)) else (some 0))) else (none)) else (none)) else (some 0)) = some r := H
  have A6 := Aside0.mk A60
  clear A60
  by_cases c7 : t371 = true
  ·subst c7
   have H1 : (if 0 ≤ a1_1 then (if a1_1 < (l0.length : Int) then ((impl_InRange.f ((rd_T40 l0 a1_1).f1) 0 2000).bind fun t373 => (if t373 = true then ((impl_distance.f ((rd_T40 l0 a1_1).f1) a2).bind fun t375 => (some t375)) else (some 0))) else (none)) else (none)) = some r := by rw [if_pos rfl] at H; exact H
   clear H
   have H := H1
   clear H1
   by_cases c8 : 0 ≤ a1_1
   ·rw [if_pos c8] at H
    have c8b0 : decide (0 ≤ a1_1) = true := decide_eq_true c8
    clear c8
    by_cases c9 : a1_1 < (l0.length : Int)
    ·rw [if_pos c9] at H
     have c9b0 : decide (a1_1 < (l0.length : Int)) = true := decide_eq_true c9
     clear c9
     replace H := Option.bind_eq_some_iff.mp H
     obtain ⟨t373, A100, H⟩ := H
     replace H : (if t373 = true then ((impl_distance.f ((rd_T40 l0 a1_1).f1) a2).bind fun t375 => (some t375)) else (some 0)) = some r := H
     have A10 := Aside0.mk A100
     clear A100
     by_cases c11 : t373 = true
     ·subst c11
      have H1 : ((impl_distance.f ((rd_T40 l0 a1_1).f1) a2).bind fun t375 => (some t375)) = some r := by rw [if_pos rfl] at H; exact H
      clear H
      have H := H1
      clear H1
      replace H := Option.bind_eq_some_iff.mp H
      obtain ⟨t375, A120, H⟩ := H
      replace H : (some t375) = some r := H
      have A12 := Aside0.mk A120
      clear A120
      obtain rfl := Option.some.inj H
      go_enter Try.func15, Try.ntmps15
      go_wp2_with (first | ((with_reducible refine gate_dst (N := 4) rfl ?_); refine bx_ (N := 4) #[.int .i64 a1_0, .int .i64 a1_1] 30 ?_; intro gb369 hg w13 hbox hb; have BK369 := ak hbox; have GW369 := gy hg HB; have GE369 := gy hg HB; replace HB := bs HB hb; clear hb hbox hg; obtain ⟨_, _, _, _⟩ := bc2 BK369) | ((with_reducible refine gate_callee (f := 71) rfl ?_); refine goesL_ (some 11) rfl rfl Try.func71 KR rfl #[.int .i64 a1_1, .int .i64 (l0.length : Int)] rfl AR ?_; (with_reducible refine (impl_at.calls a1_1 (l0.length : Int) true _ A4.out).mono ?_); rintro e w' ⟨rfl, ⟨nd, rfl⟩⟩; refine ⟨_, rfl, ?_⟩) | (go_at_call 69; (with_reducible refine (impl_InRange.calls a2 0 2000 true _ A6.out).mono ?_); rintro e w' ⟨rfl, ⟨nd, rfl⟩⟩; have p372 : 0 ≤ (a1_1 : Int) := of_decide_eq_true (by first | (with_reducible assumption) | assumption); have q372 : a1_1 < (l0.length : Int) := of_decide_eq_true (by first | (with_reducible assumption) | assumption); obtain ⟨ad372, A372_5, c372_5, e372, hx372_0, hx372_1, hx372_2, hx372_3, hx372_4, hx372_5, hx372_6, hx372_7, hx372_8, hl372_5, hi372_5⟩ := at_T40 HR0.out a1_1 p372 q372; cases e372; replace hx372_0 := hx_ HB hx372_0; replace hx372_1 := hx_ HB hx372_1; replace hx372_2 := hx_ HB hx372_2; replace hx372_3 := hx_ HB hx372_3; replace hx372_4 := hx_ HB hx372_4; replace hx372_5 := hx_ HB hx372_5; replace hx372_6 := hx_ HB hx372_6; replace hx372_7 := hx_ HB hx372_7; replace hx372_8 := hx_ HB hx372_8; have HR372_5 := Aside0.mk hi372_5; have HC372_5 := Aside0.mk hl372_5; clear hi372_5 hl372_5; replace p372 := eq_true p372; replace q372 := eq_true q372) | (go_at_call 69; (with_reducible refine (impl_InRange.calls ((rd_T40 l0 a1_1).f1) 0 2000 true _ A10.out).mono ?_); rintro e w' ⟨rfl, ⟨nd, rfl⟩⟩; have p374 : 0 ≤ (a1_1 : Int) := of_decide_eq_true (by first | (with_reducible assumption) | assumption); have q374 : a1_1 < (l0.length : Int) := of_decide_eq_true (by first | (with_reducible assumption) | assumption); obtain ⟨ad374, A374_5, c374_5, e374, hx374_0, hx374_1, hx374_2, hx374_3, hx374_4, hx374_5, hx374_6, hx374_7, hx374_8, hl374_5, hi374_5⟩ := at_T40 HR0.out a1_1 p374 q374; obtain rfl : ad372 = ad374 := (by injection e374); replace hx374_0 := hx_ HB hx374_0; replace hx374_1 := hx_ HB hx374_1; replace hx374_2 := hx_ HB hx374_2; replace hx374_3 := hx_ HB hx374_3; replace hx374_4 := hx_ HB hx374_4; replace hx374_5 := hx_ HB hx374_5; replace hx374_6 := hx_ HB hx374_6; replace hx374_7 := hx_ HB hx374_7; replace hx374_8 := hx_ HB hx374_8; have HR374_5 := Aside0.mk hi374_5; have HC374_5 := Aside0.mk hl374_5; clear hi374_5 hl374_5; replace p374 := eq_true p374; replace q374 := eq_true q374; have ea_ := Option.some.inj (hx372_5.symm.trans hx374_5); injection ea_ with ea_ en_ ec_; subst ea_; subst ec_; clear en_) | ((with_reducible refine gate_callee (f := 74) rfl ?_); refine goesL_ (some 35) rfl rfl Try.func74 KR rfl #[.int .i64 ((rd_T40 l0 a1_1).f1), .int .i64 a2] rfl AR ?_; (with_reducible refine (impl_distance.calls ((rd_T40 l0 a1_1).f1) a2 t375 _ A12.out).mono ?_); rintro e w15 ⟨rfl, hb⟩; refine ⟨_, rfl, ?_⟩; replace BK369 := kf BK369 hb; replace HB := bs HB hb; (try clear hb); (try clear hb2); (try clear hk); (try clear hi)))
      go_ret
      exact ⟨RT, PB⟩
     ·replace c11 := Bool.eq_false_iff.mpr c11
      subst c11
      have H1 : (some 0) = some r := by rw [if_neg (show ¬ (false = true) by decide)] at H; exact H
      clear H
      have H := H1
      clear H1
      obtain rfl := Option.some.inj H
      go_enter Try.func15, Try.ntmps15
      go_wp2_with (first | ((with_reducible refine gate_dst (N := 4) rfl ?_); refine bx_ (N := 4) #[.int .i64 a1_0, .int .i64 a1_1] 30 ?_; intro gb369 hg w16 hbox hb; have BK369 := ak hbox; have GW369 := gy hg HB; have GE369 := gy hg HB; replace HB := bs HB hb; clear hb hbox hg; obtain ⟨_, _, _, _⟩ := bc2 BK369) | ((with_reducible refine gate_callee (f := 71) rfl ?_); refine goesL_ (some 11) rfl rfl Try.func71 KR rfl #[.int .i64 a1_1, .int .i64 (l0.length : Int)] rfl AR ?_; (with_reducible refine (impl_at.calls a1_1 (l0.length : Int) true _ A4.out).mono ?_); rintro e w' ⟨rfl, ⟨nd, rfl⟩⟩; refine ⟨_, rfl, ?_⟩) | (go_at_call 69; (with_reducible refine (impl_InRange.calls a2 0 2000 true _ A6.out).mono ?_); rintro e w' ⟨rfl, ⟨nd, rfl⟩⟩; have p372 : 0 ≤ (a1_1 : Int) := of_decide_eq_true (by first | (with_reducible assumption) | assumption); have q372 : a1_1 < (l0.length : Int) := of_decide_eq_true (by first | (with_reducible assumption) | assumption); obtain ⟨ad372, A372_5, c372_5, e372, hx372_0, hx372_1, hx372_2, hx372_3, hx372_4, hx372_5, hx372_6, hx372_7, hx372_8, hl372_5, hi372_5⟩ := at_T40 HR0.out a1_1 p372 q372; cases e372; replace hx372_0 := hx_ HB hx372_0; replace hx372_1 := hx_ HB hx372_1; replace hx372_2 := hx_ HB hx372_2; replace hx372_3 := hx_ HB hx372_3; replace hx372_4 := hx_ HB hx372_4; replace hx372_5 := hx_ HB hx372_5; replace hx372_6 := hx_ HB hx372_6; replace hx372_7 := hx_ HB hx372_7; replace hx372_8 := hx_ HB hx372_8; have HR372_5 := Aside0.mk hi372_5; have HC372_5 := Aside0.mk hl372_5; clear hi372_5 hl372_5; replace p372 := eq_true p372; replace q372 := eq_true q372) | (go_at_call 69; (with_reducible refine (impl_InRange.calls ((rd_T40 l0 a1_1).f1) 0 2000 false _ A10.out).mono ?_); rintro e w' ⟨rfl, ⟨nd, rfl⟩⟩))
      go_ret
      exact ⟨RT, PB⟩
    ·rw [if_neg c9] at H
     exact absurd H (by simp)
   ·rw [if_neg c8] at H
    exact absurd H (by simp)
  ·replace c7 := Bool.eq_false_iff.mpr c7
   subst c7
   have H1 : (some 0) = some r := by rw [if_neg (show ¬ (false = true) by decide)] at H; exact H
   clear H
   have H := H1
   clear H1
   obtain rfl := Option.some.inj H
   go_enter Try.func15, Try.ntmps15
   go_wp2_with (first | ((with_reducible refine gate_dst (N := 4) rfl ?_); refine bx_ (N := 4) #[.int .i64 a1_0, .int .i64 a1_1] 30 ?_; intro gb369 hg w18 hbox hb; have BK369 := ak hbox; have GW369 := gy hg HB; have GE369 := gy hg HB; replace HB := bs HB hb; clear hb hbox hg; obtain ⟨hcz19_0, hcz19_1, hfz19_0, hfz19_1⟩ := bc2 BK369) | ((with_reducible refine gate_callee (f := 71) rfl ?_); refine goesL_ (some 11) rfl rfl Try.func71 KR rfl #[.int .i64 a1_1, .int .i64 (l0.length : Int)] rfl AR ?_; (with_reducible refine (impl_at.calls a1_1 (l0.length : Int) true _ A4.out).mono ?_); rintro e w' ⟨rfl, ⟨nd, rfl⟩⟩; refine ⟨_, rfl, ?_⟩) | (go_at_call 69; (with_reducible refine (impl_InRange.calls a2 0 2000 false _ A6.out).mono ?_); rintro e w' ⟨rfl, ⟨nd, rfl⟩⟩))
   go_ret
   exact ⟨RT, PB⟩
 ·replace c5 := Bool.eq_false_iff.mpr c5
  subst c5
  have H1 : (some 0) = some r := by rw [if_neg (show ¬ (false = true) by decide)] at H; exact H
  clear H
  have H := H1
  clear H1
  obtain rfl := Option.some.inj H
  go_enter Try.func15, Try.ntmps15
  go_wp2_with (first | ((with_reducible refine gate_dst (N := 4) rfl ?_); refine bx_ (N := 4) #[.int .i64 a1_0, .int .i64 a1_1] 30 ?_; intro gb369 hg w20 hbox hb; have BK369 := ak hbox; have GW369 := gy hg HB; have GE369 := gy hg HB; replace HB := bs HB hb; clear hb hbox hg; obtain ⟨_, _, _, _⟩ := bc2 BK369) | ((with_reducible refine gate_callee (f := 71) rfl ?_); refine goesL_ (some 11) rfl rfl Try.func71 KR rfl #[.int .i64 a1_1, .int .i64 (l0.length : Int)] rfl AR ?_; (with_reducible refine (impl_at.calls a1_1 (l0.length : Int) false _ A4.out).mono ?_); rintro e w' ⟨rfl, ⟨nd, rfl⟩⟩; refine ⟨_, rfl, ?_⟩))
  go_ret
  exact ⟨RT, PB⟩

/-! ### slices_Clone_int_int: function 131 -/
def slices_Clone_int_int.f (l0 : List Int) : Option (List Int) := (some (([] : List Int) : List Int)).bind fun y376 => (if y376.length + l0.length < 17592186044416 then (some (y376 ++ l0)) else (none))
set_option maxHeartbeats 8000000 in
set_option maxRecDepth 100000 in
theorem slices_Clone_int_int.calls (A0 : Option Addr) (c0 : Nat) (l0 : List Int) (r : List Int) (w : World) (hr0 : Kd.C (Kd.int .i64) w A0 l0.length l0) (hc0 : l0.length ≤ c0) (h : slices_Clone_int_int.f l0 = some r) :
  Calls Try.prog 131 #[.slice A0 l0.length c0] w fun e w' => ∃ v0_ : Value, e = .returned (v0_) ∧ Kd.R (Kd.int .i64) 3 w' w.heap.size (fun _ => True) v0_ r ∧ Below w.heap.size w w' := by
 cases A0 with
 | none =>
  have hz_ : l0.length = 0 := C_none_length hr0
  obtain rfl : l0 = [] := List.eq_nil_of_length_eq_zero hz_
  obtain rfl : r = [] := by
   have h2_ := h
   simp [slices_Clone_int_int.f] at h2_
   exact h2_
  have hnn_ : ∀ W, (binOp .eql 36 (.slice none 0 c0) (.slice none 0 0)).run Try.prog W = .ok (.bool true) W := fun W => eql_nil_none (P := Try.prog) W 36 3 0 c0 Try.underlying36
  go_enter Try.func131, Try.ntmps131
  go_wp2
  go_ret
  exact ⟨_, rfl, Kd.R_nil _ _ _ _ _, Below.refl _ _⟩
 | some ad_ =>
  have hnn_ : ∀ W, (binOp .eql 36 (.slice (some ad_) l0.length c0) (.slice none 0 0)).run Try.prog W = .ok (.bool false) W := fun W => eql_nil_some (P := Try.prog) W 36 3 ad_ l0.length c0 Try.underlying36
  have HR0 := Aside0.mk hr0
  have HC0 := Aside0.mk hc0
  clear hr0 hc0
  have HB := ak (Below.refl w.heap.size w)
  have H : ((some (([] : List Int) : List Int)).bind fun y376 => (if y376.length + l0.length < 17592186044416 then (some (y376 ++ l0)) else (none))) = some r := h
  clear h
  obtain ⟨y376, hy376⟩ : ∃ y_ : List Int, y_ = (([] : List Int)) := ⟨_, rfl⟩
  replace H : (if y376.length + l0.length < 17592186044416 then (some (y376 ++ l0)) else (none)) = some r := by first | (rw [hy376]; with_reducible exact H) | (have H2_ := (Option.bind_some _ _).symm.trans H; rw [hy376]; with_reducible exact H2_) | (have H2_ := (Option.bind_some _ _).symm.trans H; with_reducible exact H2_) | with_reducible exact H | (rw [hy376]; exact H) | exact H
  have Ny376 := Aside0.mk hy376
  clear hy376
  by_cases c2 : y376.length + l0.length < 17592186044416
  ·rw [if_pos c2] at H
   have LMc2 := Aside0.mk c2
   clear c2
   obtain ⟨y379, hy379⟩ : ∃ y_ : List Int, y_ = (y376 ++ l0) := ⟨_, rfl⟩
   replace H : (some y379) = some r := by first | (rw [hy379]; with_reducible exact H) | (have H2_ := (Option.bind_some _ _).symm.trans H; rw [hy379]; with_reducible exact H2_) | (have H2_ := (Option.bind_some _ _).symm.trans H; with_reducible exact H2_) | with_reducible exact H | (rw [hy379]; exact H) | exact H
   have Ny379 := Aside0.mk hy379
   clear hy379
   obtain rfl := Option.some.inj H
   go_enter Try.func131, Try.ntmps131
   go_wp2_with (first | ((with_reducible refine gate_dst (N := 5) rfl ?_); refine Kd.R_lit (Kd.int .i64) _ 3 ?hg (N := 5) ?hd (xs := ([] : List Int)) (inner := []) (ok := fun _ => True) (okp := fun _ => True) ?hr ?hp (fun _ hk => hk) trivial (Below.refl _ _) (Nat.le_refl _) (by simp) ?_; (case hd => rfl); (case hg => rfl); (case hr => first | (go_simp; done) | (go_simp; rfl)); (case hp => exact (Reps.none _ _)); intro v377 w3 ho4 hb hg_ hnew_; clear hg_ hnew_; (first | rw [← Ny376.out] at ho4 | (simp only [Int.reduceToNat] at ho4; rw [← Ny376.out] at ho4)); have HO378 := Rn0 ho4 HB; replace HB := bs HB hb; clear hb ho4) | ((with_reducible refine gate_builtin (b := .append) (xs := #[.tmp 5, .tmp 6]) rfl ?_); at_builtin; refine Kd.R_append_rows (Kd.int .i64) (w0 := w) w.heap.size rfl (.tmp 5) (.tmp 6) 36 3 (.int .i64 0) 8 rfl Try.underlying36 info3 rfl (by decide) (by omega) v377 y376 l0 _ _ _ (fun _ => True) (fun _ => False) rfl rfl ?aO ?aR (fun _ _ h => h) (fun _ h => h.elim) ?aF ?aB ?aS ?aL ?_; (case aR => repeat (first | exact (Kd.C_below HR0.out HB.out) | (with_reducible refine Kd.C_alloc ?_ _) | (with_reducible refine Kd.C_drewN ?_ _) | (with_reducible refine Kd.C_drew ?_))); (case aB => exact PB); (case aF => exact (fun _ _ => trivial)); (case aO => exact (PR HO378)); (case aS => exact (below_size PB)); (case aL => have := LMc2.out; omega); intro v380 w5 ho hb hg hat; rw [← Ny379.out] at ho; replace HB := ak hb; have HO381 := ak (ho); clear HO378; clear ho hb hg hat))
   go_ret
   exact ⟨_, RT, by (with_reducible repeat (first | apply Kd.R_alloc | apply Kd.R_drewN | apply Kd.R_drew)); exact HO381.out, PB⟩
  ·rw [if_neg c2] at H
   exact absurd H (by simp)

/-! ### impl_copyResource: function 75 -/
def impl_copyResource.f (a0_0 : Int) (l0_1 : List Int) (a0_2 : Int) (a0_3 : Int) (a0_4 : Int) : Option (Int × List Int × Int × Int × Int) := (slices_Clone_int_int.f l0_1).bind fun t384 => (some (a0_0, t384, a0_2, a0_3, a0_4))
set_option maxHeartbeats 8000000 in
set_option maxRecDepth 100000 in
theorem impl_copyResource.calls (a0_0 : Int) (A0_1 : Option Addr) (c0_1 : Nat) (l0_1 : List Int) (a0_2 : Int) (a0_3 : Int) (a0_4 : Int) (r1 : Int) (r2 : List Int) (r3 : Int) (r4 : Int) (r5 : Int) (w : World) (hr0_1 : Kd.C (Kd.int .i64) w A0_1 l0_1.length l0_1) (hc0_1 : l0_1.length ≤ c0_1) (h : impl_copyResource.f a0_0 l0_1 a0_2 a0_3 a0_4 = some (r1, r2, r3, r4, r5)) :
  Calls Try.prog 75 #[.agg #[.int .i64 a0_0, .slice A0_1 l0_1.length c0_1, .int .i64 a0_2, .int .i64 a0_3, .int .i64 a0_4]] w fun e w' => ∃ v1_ : Value, e = .returned (.agg #[.int .i64 r1, v1_, .int .i64 r3, .int .i64 r4, .int .i64 r5]) ∧ Kd.R (Kd.int .i64) 3 w' w.heap.size (fun _ => True) v1_ r2 ∧ Below w.heap.size w w' := by
 have hu38 := Try.underlying38
 have HR0_1 := Aside0.mk hr0_1
 have HC0_1 := Aside0.mk hc0_1
 clear hr0_1 hc0_1
 have HB := ak (Below.refl w.heap.size w)
 have H : ((slices_Clone_int_int.f l0_1).bind fun t384 => (some (a0_0, t384, a0_2, a0_3, a0_4))) = some (r1, r2, r3, r4, r5) := h
 clear h
 replace H := Option.bind_eq_some_iff.mp H
 obtain ⟨t384, A20, H⟩ := H
 replace H : (some (a0_0, t384, a0_2, a0_3, a0_4)) = some (r1, r2, r3, r4, r5) := H
 have A2 := Aside0.mk A20
 clear A20
 simp only [Option.some.injEq, Prod.mk.injEq] at H
 obtain ⟨rfl, rfl, rfl, rfl, rfl⟩ := H
 go_enter Try.func75, Try.ntmps75
 go_wp2_with (first | ((with_reducible refine gate_dst (N := 1) rfl ?_); refine bx_ (N := 1) #[.int .i64 a0_0, .slice A0_1 l0_1.length c0_1, .int .i64 a0_2, .int .i64 a0_3, .int .i64 a0_4] 38 ?_; intro gb382 hg w3 hbox hb; have BK382 := ak hbox; have GW382 := gy hg HB; have GE382 := gy hg HB; replace HB := bs HB hb; clear hb hbox hg) | ((with_reducible refine gate_dst (N := 2) rfl ?_); refine bx_ (N := 2) #[.int .i64 0, .slice none 0 0, .int .i64 0, .int .i64 0, .int .i64 0] 38 ?_; intro gb383 hg w4 hbox hb; have BK383 := ak hbox; have GW383 := gy hg HB; have GE383 := gy hg HB; replace HB := bs HB hb; have NB382_383 := gm hg BK382; have NB383_382 := gn hg BK382; replace BK382 := kf BK382 hb; clear hb hbox hg; have hnb5 := NB382_383.out; have hnc5 := NB383_382.out; obtain ⟨hcz6_0, hcz6_1, _, _, _, hfz6_0, hfz6_1, _, _, _⟩ := bc5 BK382) | ((with_reducible refine gate_callee (f := 131) rfl ?_); refine goesL_ (some 5) rfl rfl Try.func131 KR rfl #[.slice A0_1 l0_1.length c0_1] rfl AR ?_; (with_reducible refine (slices_Clone_int_int.calls _ _ l0_1 t384 _ ?side1 ?side2 A2.out).mono ?_); (case side1 => exact CR (Kd.C_below HR0_1.out HB.out)); (case side2 => exact HC0_1.out); rintro e w7 ⟨v385, rfl, ho0, hb⟩; refine ⟨_, rfl, ?_⟩; have HO386 := Rn0 ho0 HB; replace BK382 := kf BK382 hb; replace BK383 := kf BK383 hb; replace HB := bs HB hb; (try clear hb); (try clear hb2); (try clear hk); (try clear hi); (try clear ho0); obtain ⟨Ao8, co8, eo8⟩ := Kd.R_slice HO386.out; subst eo8; obtain ⟨_, _, _, _, _, _, _, _, _, _⟩ := bc5 BK382; obtain ⟨_, _, _, _, _, _, _, _, _, _⟩ := bc5 BK383))
 refine bodyPost_ret (results_cell_row rfl _ _ gb383 38 #[.int .i64 a0_0, .slice Ao8 t384.length co8, .int .i64 a0_2, .int .i64 a0_3, .int .i64 a0_4] (0, 0) _ rfl (PX BK383) Try.underlying38 rfl KR) rfl ?_
 exact ⟨_, RT, RX (Rt (Rt HO386.out BK382) BK383) (fun _ hk => trivial), PB⟩

/-! ### impl_ResourceBy: function 17 -/
def impl_ResourceBy.f (l0 : List (S40)) (a1_0 : Int) (a1_1 : Int) : Option (Int × List Int × Int × Int × Int) := (impl_at.f a1_1 (l0.length : Int)).bind fun t389 => (if t389 = true then (if 0 ≤ a1_1 then (if a1_1 < (l0.length : Int) then ((impl_copyResource.f ((rd_T40 l0 a1_1).f2.f0) ((rd_T40 l0 a1_1).f2.f1) ((rd_T40 l0 a1_1).f2.f2.f0) ((rd_T40 l0 a1_1).f2.f2.f1) ((rd_T40 l0 a1_1).f2.f2.f2)).bind fun bt391 => (some (bt391.1, bt391.2.1, bt391.2.2.1, bt391.2.2.2.1, bt391.2.2.2.2))) else (none)) else (none)) else (some (4, ([] : List Int), 0, 0, 0)))
set_option maxHeartbeats 8000000 in
set_option maxRecDepth 100000 in
theorem impl_ResourceBy.calls (A0 : Option Addr) (c0 : Nat) (l0 : List (S40)) (a1_0 : Int) (a1_1 : Int) (r1 : Int) (r2 : List Int) (r3 : Int) (r4 : Int) (r5 : Int) (w : World) (hr0 : Kd.C k40 w A0 l0.length l0) (hc0 : l0.length ≤ c0) (h : impl_ResourceBy.f l0 a1_0 a1_1 = some (r1, r2, r3, r4, r5)) :
  Calls Try.prog 17 #[.slice A0 l0.length c0, .agg #[.int .i64 a1_0, .int .i64 a1_1]] w fun e w' => ∃ v1_ : Value, e = .returned (.agg #[.int .i64 r1, v1_, .int .i64 r3, .int .i64 r4, .int .i64 r5]) ∧ Kd.R (Kd.int .i64) 3 w' w.heap.size (fun _ => True) v1_ r2 ∧ Below w.heap.size w w' := by
 have hu30 := Try.underlying30
 have hu38 := Try.underlying38
 have HR0 := Aside0.mk hr0
 have HC0 := Aside0.mk hc0
 clear hr0 hc0
 have HB := ak (Below.refl w.heap.size w)
 have H : ((impl_at.f a1_1 (l0.length : Int)).bind fun t389 => (if t389 = true then (if 0 ≤ a1_1 then (if a1_1 < (l0.length : Int) then ((impl_copyResource.f ((rd_T40 l0 a1_1).f2.f0) ((rd_T40 l0 a1_1).f2.f1) ((rd_T40 l0 a1_1).f2.f2.f0) ((rd_T40 l0 a1_1).f2.f2.f1) ((rd_T40 l0 a1_1).f2.f2.f2)).bind fun bt391 => (some (bt391.1, bt391.2.1, bt391.2.2.1, bt391.2.2.2.1, bt391.2.2.2.2))) else (none)) else (none)) else (some (4, ([] : List Int), 0, 0, 0)))) = some (r1, r2, r3, r4, r5) := h
 clear h
 replace H := Option.bind_eq_some_iff.mp H
 obtain ⟨t389, A30, H⟩ := H
 replace H : (if t389 = true then (if 0 ≤ a1_1 then (if a1_1 < (l0.length : Int) then ((impl_copyResource.f ((rd_T40 l0 a1_1).f2.f0) ((rd_T40 l0 a1_1).f2.f1) ((rd_T40 l0 a1_1).f2.f2.f0) ((rd_T40 l0 a1_1).f2.f2.f1) ((rd_T40 l0 a1_1).f2.f2.f2)).bind fun bt391 => (some (bt391.1, bt391.2.1, bt391.2.2.1, bt391.2.2.2.1, bt391.2.2.2.2))) else (none)) else (none)) else (some (4, ([] : List Int), 0, 0, 0))) = some (r1, r2, r3, r4, r5) := H
 have A3 := Aside0.mk A30
 clear A30
 by_cases c4 : t389 = true
 ·subst c4
  have H1 : (if 0 ≤ a1_1 then (if a1_1 < (l0.length : Int) then ((impl_copyResource.f ((rd_T40 l0 a1_1).f2.f0) ((rd_T40 l0 a1_1).f2.f1) ((rd_T40 l0 a1_1).f2.f2.f0) ((rd_T40 l0 a1_1).f2.f2.f1) ((rd_T40 l0 a1_1).f2.f2.f2)).bind fun bt391 => (some (bt391.1, bt391.2.1, bt391.2.2.1, bt391.2.2.2.1, bt391.2.2.2.2))) else (none)) else (none)) = some (r1, r2, r3, r4, r5) := by rw [if_pos rfl] at H; exact H
  clear H
  have H := H1
  clear H1
  by_cases c5 : 0 ≤ a1_1
  ·rw [if_pos c5] at H
   have c5b0 : decide (0 ≤ a1_1) = true := decide_eq_true c5
   clear c5
   by_cases c6 : a1_1 < (l0.length : Int)
   ·rw [if_pos c6] at H
    have c6b0 : decide (a1_1 < (l0.length : Int)) = true := decide_eq_true c6
    clear c6
    replace H := Option.bind_eq_some_iff.mp H
    obtain ⟨⟨t391, t392, t395, t396, t397⟩, A70, H⟩ := H
    replace H : (some (t391, t392, t395, t396, t397)) = some (r1, r2, r3, r4, r5) := H
    have A7 := Aside0.mk A70
    clear A70
    simp only [Option.some.injEq, Prod.mk.injEq] at H
    obtain ⟨rfl, rfl, rfl, rfl, rfl⟩ := H
    go_enter Try.func17, Try.ntmps17
    go_wp2_with (first | ((with_reducible refine gate_dst (N := 3) rfl ?_); refine bx_ (N := 3) #[.int .i64 a1_0, .int .i64 a1_1] 30 ?_; intro gb387 hg w8 hbox hb; have BK387 := ak hbox; have GW387 := gy hg HB; have GE387 := gy hg HB; replace HB := bs HB hb; clear hb hbox hg) | ((with_reducible refine gate_dst (N := 4) rfl ?_); refine bx_ (N := 4) #[.int .i64 0, .slice none 0 0, .int .i64 0, .int .i64 0, .int .i64 0] 38 ?_; intro gb388 hg w9 hbox hb; have BK388 := ak hbox; have GW388 := gy hg HB; have GE388 := gy hg HB; replace HB := bs HB hb; have NB387_388 := gm hg BK387; have NB388_387 := gn hg BK387; replace BK387 := kf BK387 hb; clear hb hbox hg; have hnb10 := NB387_388.out; have hnc10 := NB388_387.out; obtain ⟨_, _, _, _⟩ := bc2 BK387) | ((with_reducible refine gate_callee (f := 71) rfl ?_); refine goesL_ (some 9) rfl rfl Try.func71 KR rfl #[.int .i64 a1_1, .int .i64 (l0.length : Int)] rfl AR ?_; (with_reducible refine (impl_at.calls a1_1 (l0.length : Int) true _ A3.out).mono ?_); rintro e w' ⟨rfl, ⟨nd, rfl⟩⟩; refine ⟨_, rfl, ?_⟩; (try (rw [drewN_self w9]; generalize hq_ : World.drewN w9 _ = w9; replace BK387 : Aside0 (w9.heap[gb387]? = some (.cells #[.int .i64 a1_0, .int .i64 a1_1] 30 (0, 0))) := ⟨by rw [← hq_]; exact (PK BK387)⟩; replace BK388 : Aside0 (w9.heap[gb388]? = some (.cells #[.int .i64 0, .slice none 0 0, .int .i64 0, .int .i64 0, .int .i64 0] 38 (0, 0))) := ⟨by rw [← hq_]; exact (PK BK388)⟩; replace HB : Aside0 (Below w.heap.size w w9) := ⟨by rw [← hq_]; exact PB⟩; clear hq_)); have hczd0_gb387_0 : w9.cell? ⟨gb387, 0, none⟩ = some (.int .i64 a1_0) := (blk_cell BK387.out 0).trans rfl; have hfzd0_gb387_0 := blk_frozen BK387.out 0; have hczd0_gb387_1 : w9.cell? ⟨gb387, 1, none⟩ = some (.int .i64 a1_1) := (blk_cell BK387.out 1).trans rfl; have hfzd0_gb387_1 := blk_frozen BK387.out 1; have p390 : 0 ≤ (a1_1 : Int) := of_decide_eq_true (by first | (with_reducible assumption) | assumption); have q390 : a1_1 < (l0.length : Int) := of_decide_eq_true (by first | (with_reducible assumption) | assumption); obtain ⟨ad390, A390_5, c390_5, e390, hx390_0, hx390_1, hx390_2, hx390_3, hx390_4, hx390_5, hx390_6, hx390_7, hx390_8, hl390_5, hi390_5⟩ := at_T40 HR0.out a1_1 p390 q390; cases e390; replace hx390_0 := hx_ HB hx390_0; replace hx390_1 := hx_ HB hx390_1; replace hx390_2 := hx_ HB hx390_2; replace hx390_3 := hx_ HB hx390_3; replace hx390_4 := hx_ HB hx390_4; replace hx390_5 := hx_ HB hx390_5; replace hx390_6 := hx_ HB hx390_6; replace hx390_7 := hx_ HB hx390_7; replace hx390_8 := hx_ HB hx390_8; have HR390_5 := Aside0.mk hi390_5; have HC390_5 := Aside0.mk hl390_5; clear hi390_5 hl390_5; replace p390 := eq_true p390; replace q390 := eq_true q390) | ((with_reducible refine gate_callee (f := 75) rfl ?_); refine goesL_ (some 18) rfl rfl Try.func75 KR rfl #[.agg #[.int .i64 ((rd_T40 l0 a1_1).f2.f0), .slice A390_5 ((rd_T40 l0 a1_1).f2.f1).length c390_5, .int .i64 ((rd_T40 l0 a1_1).f2.f2.f0), .int .i64 ((rd_T40 l0 a1_1).f2.f2.f1), .int .i64 ((rd_T40 l0 a1_1).f2.f2.f2)]] rfl AR ?_; (with_reducible refine (impl_copyResource.calls ((rd_T40 l0 a1_1).f2.f0) _ _ ((rd_T40 l0 a1_1).f2.f1) ((rd_T40 l0 a1_1).f2.f2.f0) ((rd_T40 l0 a1_1).f2.f2.f1) ((rd_T40 l0 a1_1).f2.f2.f2) t391 t392 t395 t396 t397 _ ?side1 ?side2 A7.out).mono ?_); (case side1 => exact CR (Kd.C_below HR390_5.out HB.out)); (case side2 => exact HC390_5.out); rintro e w12 ⟨v393, rfl, ho0, hb⟩; refine ⟨_, rfl, ?_⟩; have HO394 := Rn0 ho0 HB; replace BK387 := kf BK387 hb; replace BK388 := kf BK388 hb; replace HB := bs HB hb; (try clear hb); (try clear hb2); (try clear hk); (try clear hi); (try clear ho0); obtain ⟨hcz13_0, hcz13_1, _, _, _, hfz13_0, hfz13_1, _, _, _⟩ := bc5 BK388; obtain ⟨Ao14, co14, eo14⟩ := Kd.R_slice HO394.out; subst eo14))
    refine bodyPost_ret (results_cell_row rfl _ _ gb388 38 #[.int .i64 t391, .slice Ao14 t392.length co14, .int .i64 t395, .int .i64 t396, .int .i64 t397] (0, 0) _ rfl (PX BK388) Try.underlying38 rfl KR) rfl ?_
    exact ⟨_, RT, RX (Rt HO394.out BK388) (fun _ hk => trivial), PB⟩
   ·rw [if_neg c6] at H
    exact absurd H (by simp)
  ·rw [if_neg c5] at H
   exact absurd H (by simp)
 ·replace c4 := Bool.eq_false_iff.mpr c4
  subst c4
  have H1 : (some (4, ([] : List Int), 0, 0, 0)) = some (r1, r2, r3, r4, r5) := by rw [if_neg (show ¬ (false = true) by decide)] at H; exact H
  clear H
  have H := H1
  clear H1
  simp only [Option.some.injEq, Prod.mk.injEq] at H
  obtain ⟨rfl, rfl, rfl, rfl, rfl⟩ := H
  go_enter Try.func17, Try.ntmps17
  go_wp2_with (first | ((with_reducible refine gate_dst (N := 3) rfl ?_); refine bx_ (N := 3) #[.int .i64 a1_0, .int .i64 a1_1] 30 ?_; intro gb387 hg w15 hbox hb; have BK387 := ak hbox; have GW387 := gy hg HB; have GE387 := gy hg HB; replace HB := bs HB hb; clear hb hbox hg) | ((with_reducible refine gate_dst (N := 4) rfl ?_); refine bx_ (N := 4) #[.int .i64 0, .slice none 0 0, .int .i64 0, .int .i64 0, .int .i64 0] 38 ?_; intro gb388 hg w16 hbox hb; have BK388 := ak hbox; have GW388 := gy hg HB; have GE388 := gy hg HB; replace HB := bs HB hb; have NB387_388 := gm hg BK387; have NB388_387 := gn hg BK387; replace BK387 := kf BK387 hb; clear hb hbox hg; have hnb17 := NB387_388.out; have hnc17 := NB388_387.out; obtain ⟨_, _, _, _⟩ := bc2 BK387) | ((with_reducible refine gate_callee (f := 71) rfl ?_); refine goesL_ (some 9) rfl rfl Try.func71 KR rfl #[.int .i64 a1_1, .int .i64 (l0.length : Int)] rfl AR ?_; (with_reducible refine (impl_at.calls a1_1 (l0.length : Int) false _ A3.out).mono ?_); rintro e w' ⟨rfl, ⟨nd, rfl⟩⟩; refine ⟨_, rfl, ?_⟩; (try (rw [drewN_self w16]; generalize hq_ : World.drewN w16 _ = w16; replace BK387 : Aside0 (w16.heap[gb387]? = some (.cells #[.int .i64 a1_0, .int .i64 a1_1] 30 (0, 0))) := ⟨by rw [← hq_]; exact (PK BK387)⟩; replace BK388 : Aside0 (w16.heap[gb388]? = some (.cells #[.int .i64 0, .slice none 0 0, .int .i64 0, .int .i64 0, .int .i64 0] 38 (0, 0))) := ⟨by rw [← hq_]; exact (PK BK388)⟩; replace HB : Aside0 (Below w.heap.size w w16) := ⟨by rw [← hq_]; exact PB⟩; clear hq_)); have hczd0_gb387_0 : w16.cell? ⟨gb387, 0, none⟩ = some (.int .i64 a1_0) := (blk_cell BK387.out 0).trans rfl; have hfzd0_gb387_0 := blk_frozen BK387.out 0; have hczd0_gb387_1 : w16.cell? ⟨gb387, 1, none⟩ = some (.int .i64 a1_1) := (blk_cell BK387.out 1).trans rfl; have hfzd0_gb387_1 := blk_frozen BK387.out 1; obtain ⟨hcz19_0, hcz19_1, _, _, _, hfz19_0, hfz19_1, _, _, _⟩ := bc5 BK388))
  refine bodyPost_ret (results_cell_row rfl _ _ gb388 38 #[.int .i64 4, .slice none 0 0, .int .i64 0, .int .i64 0, .int .i64 0] (0, 0) _ rfl (PX BK388) Try.underlying38 rfl KR) rfl ?_
  exact ⟨_, RT, by first | exact Kd.R_nil _ _ _ _ _ | exact Kd.N_nil _ _ _ _ _ | exact Kd.V_nil _ _ _ _ _ | exact Kd.Q_nil _ _ _ _ _ | exact Kd.S_nil _ _ _ _ _, PB⟩

/-! ### impl_IsBetter: function 18 -/
def impl_IsBetter.f (a0_0 : Int) (a0_1 : Int) (a1_0 : Int) (a1_1 : Int) : Option (Bool) := some (decide (a0_0 < a1_0))
set_option maxHeartbeats 8000000 in
set_option maxRecDepth 100000 in
theorem impl_IsBetter.calls (a0_0 : Int) (a0_1 : Int) (a1_0 : Int) (a1_1 : Int) (r : Bool) (w : World) (h : impl_IsBetter.f a0_0 a0_1 a1_0 a1_1 = some r) :
  Calls Try.prog 18 #[.agg #[.int .i64 a0_0, .int .i64 a0_1], .agg #[.int .i64 a1_0, .int .i64 a1_1]] w fun e w' => e = .returned (.bool r) ∧ Below w.heap.size w w' := by
 have hu30 := Try.underlying30
 have HB := ak (Below.refl w.heap.size w)
 have H : (some (decide (a0_0 < a1_0))) = some r := h
 clear h
 obtain rfl := Option.some.inj H
 go_enter Try.func18, Try.ntmps18
 go_wp2_with (first | ((with_reducible refine gate_dst (N := 2) rfl ?_); refine bx_ (N := 2) #[.int .i64 a0_0, .int .i64 a0_1] 30 ?_; intro gb398 hg w3 hbox hb; have BK398 := ak hbox; have GW398 := gy hg HB; have GE398 := gy hg HB; replace HB := bs HB hb; clear hb hbox hg) | ((with_reducible refine gate_dst (N := 3) rfl ?_); refine bx_ (N := 3) #[.int .i64 a1_0, .int .i64 a1_1] 30 ?_; intro gb399 hg w4 hbox hb; have BK399 := ak hbox; have GW399 := gy hg HB; have GE399 := gy hg HB; replace HB := bs HB hb; have NB398_399 := gm hg BK398; have NB399_398 := gn hg BK398; replace BK398 := kf BK398 hb; clear hb hbox hg; have hnb5 := NB398_399.out; have hnc5 := NB399_398.out; obtain ⟨hcz6_0, hcz6_1, hfz6_0, hfz6_1⟩ := bc2 BK398; obtain ⟨_, _, _, _⟩ := bc2 BK399))
 go_ret
 exact ⟨RT, PB⟩

end Go.Proofs.Ytgcamebeonodeaa.MFnNearest
