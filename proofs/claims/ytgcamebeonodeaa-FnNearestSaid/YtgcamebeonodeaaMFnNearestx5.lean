-- Written by a program of this session out of the translation's own print. Not trusted: Lean checks it.
import Derived.Test.YtgcamebeonodeaaShr2
import Derived.Test.YtgcamebeonodeaaMFnNearestx0
import Derived.Test.YtgcamebeonodeaaMFnNearestx1
import Derived.Test.YtgcamebeonodeaaMFnNearestx4
namespace Go.Proofs.Ytgcamebeonodeaa.MFnNearest
open Go.RowKit Go.Proofs.YtgcamebeonodeaaW.PrintWords Go.Proofs.YtgcamebeonodeaaW.PrintLast Go.Proofs.YtgcamebeonodeaaW.PrintMore
attribute [local go_sem] max2_int min2_int max_two min_two max_three min_three max_four min_four   -- for this text's walks alone
set_option linter.unusedVariables false
set_option linter.unusedSimpArgs false

attribute [local go_sem high] eqA26
/-! ### slices_IndexFunc_73: function 130 -/
def slices_IndexFunc_73.l0 : Nat → List (S40) → Int → Int → Option (Int)
  | 0, _, _, _ => none
  | k + 1, x0, x7, x8 => if x8 < x7 then (if 0 ≤ x8 then (if x8 < (x0.length : Int) then ((impl_AreCaptures_lit1.f k ((rd_T40 x0 x8).f0.f0) ((rd_T40 x0 x8).f0.f1) ((rd_T40 x0 x8).f0.f2) ((rd_T40 x0 x8).f1) ((rd_T40 x0 x8).f2.f0) ((rd_T40 x0 x8).f2.f1) ((rd_T40 x0 x8).f2.f2.f0) ((rd_T40 x0 x8).f2.f2.f1) ((rd_T40 x0 x8).f2.f2.f2)).bind fun t344 => (if t344 = true then (some x8) else (slices_IndexFunc_73.l0 k x0 x7 (wrap64 (x8 + 1))))) else (none)) else (none)) else (some (-1))
def slices_IndexFunc_73.f (k : Nat) (l0 : List (S40)) (a1 : Int) : Option (Int) := slices_IndexFunc_73.l0 k l0 (l0.length : Int) 0
set_option maxHeartbeats 8000000 in
set_option maxRecDepth 100000 in
theorem slices_IndexFunc_73.calls (k : Nat) (A0 : Option Addr) (c0 : Nat) (l0 : List (S40)) (a1 : Int) (r : Int) (w : World) (hr0 : Kd.C k40 w A0 l0.length l0) (hc0 : l0.length ≤ c0) (h : slices_IndexFunc_73.f k l0 a1 = some r) :
  Calls Try.prog 130 #[.slice A0 l0.length c0, .func (.func 73) #[] #[]] w fun e w' => e = .returned (.int .i64 r) ∧ Below w.heap.size w w' := by
 have hu40 := Try.underlying40
 have HR0 := Aside0.mk hr0
 have HC0 := Aside0.mk hc0
 clear hr0 hc0
 have HB := ak (Below.refl w.heap.size w)
 have H : (slices_IndexFunc_73.l0 k l0 (l0.length : Int) 0) = some r := h
 clear h
 have H' := Aside0.mk H
 clear H
 go_enter Try.func130, Try.ntmps130
 go_wp2
 go_loopg [8] k (fun kq v8 w' => ∃ (x8_1 : Int), v8 = .int .i64 x8_1 ∧ Aside0 (slices_IndexFunc_73.l0 kq l0 (l0.length : Int) x8_1 = some r) ∧ Aside0 (kq ≤ k) ∧ Aside0 (Below w.heap.size w w'))
 case atStart => exact ⟨(0), (by first | rfl | (simp; done) | (simp [*]; done)), H', ⟨Nat.le_refl _⟩, ⟨PB⟩⟩
 case round =>
  clear H'
  try clear p2
  obtain ⟨x8_1, rfl, HA, HK1, HB⟩ := hrel
  cases gk with
  | zero => exact absurd HA.out (by simp [slices_IndexFunc_73.l0])
  | succ k1 =>
   have H := HA.out
   clear HA
   simp only [slices_IndexFunc_73.l0] at H
   by_cases c3 : x8_1 < (l0.length : Int)
   ·rw [if_pos c3] at H
    have c3b0 : decide (x8_1 < (l0.length : Int)) = true := decide_eq_true c3
    clear c3
    by_cases c4 : 0 ≤ x8_1
    ·rw [if_pos c4] at H
     have c4b0 : decide (0 ≤ x8_1) = true := decide_eq_true c4
     clear c4
     by_cases c5 : x8_1 < (l0.length : Int)
     ·rw [if_pos c5] at H
      have c5b0 : decide (x8_1 < (l0.length : Int)) = true := decide_eq_true c5
      clear c5
      replace H := Option.bind_eq_some_iff.mp H
      obtain ⟨t344, A60, H⟩ := H
      replace H : (if t344 = true then (some x8_1) else (slices_IndexFunc_73.l0 k1 l0 (l0.length : Int) (wrap64 (x8_1 + 1)))) = some r := H
      have A6 := Aside0.mk A60
      clear A60
      by_cases c7 : t344 = true
      ·subst c7
       have H1 : (some x8_1) = some r := by rw [if_pos rfl] at H; exact H
       clear H
       have H := H1
       clear H1
       obtain rfl := Option.some.inj H
       have p343 : 0 ≤ (x8_1 : Int) := of_decide_eq_true (by first | (with_reducible assumption) | assumption)
       have q343 : x8_1 < (l0.length : Int) := of_decide_eq_true (by first | (with_reducible assumption) | assumption)
       obtain ⟨ad343, A343_5, c343_5, e343, hx343_0, hx343_1, hx343_2, hx343_3, hx343_4, hx343_5, hx343_6, hx343_7, hx343_8, hl343_5, hi343_5⟩ := at_T40 HR0.out x8_1 p343 q343
       cases e343
       replace hx343_0 := hx_ HB hx343_0
       replace hx343_1 := hx_ HB hx343_1
       replace hx343_2 := hx_ HB hx343_2
       replace hx343_3 := hx_ HB hx343_3
       replace hx343_4 := hx_ HB hx343_4
       replace hx343_5 := hx_ HB hx343_5
       replace hx343_6 := hx_ HB hx343_6
       replace hx343_7 := hx_ HB hx343_7
       replace hx343_8 := hx_ HB hx343_8
       have HR343_5 := Aside0.mk hi343_5
       have HC343_5 := Aside0.mk hl343_5
       clear hi343_5 hl343_5
       replace p343 := eq_true p343
       replace q343 := eq_true q343
       go_wp2_with (first | ((with_reducible refine gate_calleeV (n := 11) rfl ?_); refine goesLV_ (some 16) rfl rfl Try.func73 KR rfl #[.agg #[.int .i64 ((rd_T40 l0 x8_1).f0.f0), .int .i64 ((rd_T40 l0 x8_1).f0.f1), .int .i64 ((rd_T40 l0 x8_1).f0.f2), .int .i64 ((rd_T40 l0 x8_1).f1), .int .i64 ((rd_T40 l0 x8_1).f2.f0), .slice A343_5 ((rd_T40 l0 x8_1).f2.f1).length c343_5, .int .i64 ((rd_T40 l0 x8_1).f2.f2.f0), .int .i64 ((rd_T40 l0 x8_1).f2.f2.f1), .int .i64 ((rd_T40 l0 x8_1).f2.f2.f2)]] rfl AR ?_; (with_reducible refine (impl_AreCaptures_lit1.calls k1 ((rd_T40 l0 x8_1).f0.f0) ((rd_T40 l0 x8_1).f0.f1) ((rd_T40 l0 x8_1).f0.f2) ((rd_T40 l0 x8_1).f1) ((rd_T40 l0 x8_1).f2.f0) _ _ ((rd_T40 l0 x8_1).f2.f1) ((rd_T40 l0 x8_1).f2.f2.f0) ((rd_T40 l0 x8_1).f2.f2.f1) ((rd_T40 l0 x8_1).f2.f2.f2) true _ ?side1 ?side2 A6.out).mono ?_); (case side1 => exact CR (Kd.C_below HR343_5.out HB.out)); (case side2 => exact HC343_5.out); rintro e w8 ⟨rfl, hb⟩; refine ⟨_, rfl, ?_⟩; replace HB := bs HB hb; (try clear hb); (try clear hb2); (try clear hk); (try clear hi)))
       go_ret
       exact ⟨RT, PB⟩
      ·replace c7 := Bool.eq_false_iff.mpr c7
       subst c7
       have H1 : (slices_IndexFunc_73.l0 k1 l0 (l0.length : Int) (wrap64 (x8_1 + 1))) = some r := by rw [if_neg (show ¬ (false = true) by decide)] at H; exact H
       clear H
       have H := H1
       clear H1
       have H' := Aside0.mk H
       clear H
       have p343 : 0 ≤ (x8_1 : Int) := of_decide_eq_true (by first | (with_reducible assumption) | assumption)
       have q343 : x8_1 < (l0.length : Int) := of_decide_eq_true (by first | (with_reducible assumption) | assumption)
       obtain ⟨ad343, A343_5, c343_5, e343, hx343_0, hx343_1, hx343_2, hx343_3, hx343_4, hx343_5, hx343_6, hx343_7, hx343_8, hl343_5, hi343_5⟩ := at_T40 HR0.out x8_1 p343 q343
       cases e343
       replace hx343_0 := hx_ HB hx343_0
       replace hx343_1 := hx_ HB hx343_1
       replace hx343_2 := hx_ HB hx343_2
       replace hx343_3 := hx_ HB hx343_3
       replace hx343_4 := hx_ HB hx343_4
       replace hx343_5 := hx_ HB hx343_5
       replace hx343_6 := hx_ HB hx343_6
       replace hx343_7 := hx_ HB hx343_7
       replace hx343_8 := hx_ HB hx343_8
       have HR343_5 := Aside0.mk hi343_5
       have HC343_5 := Aside0.mk hl343_5
       clear hi343_5 hl343_5
       replace p343 := eq_true p343
       replace q343 := eq_true q343
       go_wp2_with (first | ((with_reducible refine gate_calleeV (n := 11) rfl ?_); refine goesLV_ (some 16) rfl rfl Try.func73 KR rfl #[.agg #[.int .i64 ((rd_T40 l0 x8_1).f0.f0), .int .i64 ((rd_T40 l0 x8_1).f0.f1), .int .i64 ((rd_T40 l0 x8_1).f0.f2), .int .i64 ((rd_T40 l0 x8_1).f1), .int .i64 ((rd_T40 l0 x8_1).f2.f0), .slice A343_5 ((rd_T40 l0 x8_1).f2.f1).length c343_5, .int .i64 ((rd_T40 l0 x8_1).f2.f2.f0), .int .i64 ((rd_T40 l0 x8_1).f2.f2.f1), .int .i64 ((rd_T40 l0 x8_1).f2.f2.f2)]] rfl AR ?_; (with_reducible refine (impl_AreCaptures_lit1.calls k1 ((rd_T40 l0 x8_1).f0.f0) ((rd_T40 l0 x8_1).f0.f1) ((rd_T40 l0 x8_1).f0.f2) ((rd_T40 l0 x8_1).f1) ((rd_T40 l0 x8_1).f2.f0) _ _ ((rd_T40 l0 x8_1).f2.f1) ((rd_T40 l0 x8_1).f2.f2.f0) ((rd_T40 l0 x8_1).f2.f2.f1) ((rd_T40 l0 x8_1).f2.f2.f2) false _ ?side1 ?side2 A6.out).mono ?_); (case side1 => exact CR (Kd.C_below HR343_5.out HB.out)); (case side2 => exact HC343_5.out); rintro e w9 ⟨rfl, hb⟩; refine ⟨_, rfl, ?_⟩; replace HB := bs HB hb; (try clear hb); (try clear hb2); (try clear hk); (try clear hi)))
       go_roundg k1
       case measure => have := HK1.out; omega
       case rel => exact ⟨(wrap64 (x8_1 + 1)), (by first | rfl | (simp; done) | (simp [*]; done)), H', ⟨by have := HK1.out; omega⟩, ⟨PB⟩⟩
     ·rw [if_neg c5] at H
      exact absurd H (by simp)
    ·rw [if_neg c4] at H
     exact absurd H (by simp)
   ·rw [if_neg c3] at H
    have c3b0 : decide (x8_1 < (l0.length : Int)) = false := decide_eq_false c3
    clear c3
    obtain rfl := Option.some.inj H
    go_wp2
    go_ret
    exact ⟨RT, PB⟩

/-! ### slices_ContainsFunc_73: function 72 -/
def slices_ContainsFunc_73.f (k : Nat) (l0 : List (S40)) (a1 : Int) : Option (Bool) := (slices_IndexFunc_73.f k l0 a1).bind fun t345 => (some (decide (t345 ≥ 0)))
set_option maxHeartbeats 8000000 in
set_option maxRecDepth 100000 in
theorem slices_ContainsFunc_73.calls (k : Nat) (A0 : Option Addr) (c0 : Nat) (l0 : List (S40)) (a1 : Int) (r : Bool) (w : World) (hr0 : Kd.C k40 w A0 l0.length l0) (hc0 : l0.length ≤ c0) (h : slices_ContainsFunc_73.f k l0 a1 = some r) :
  Calls Try.prog 72 #[.slice A0 l0.length c0, .func (.func 73) #[] #[]] w fun e w' => e = .returned (.bool r) ∧ Below w.heap.size w w' := by
 have HR0 := Aside0.mk hr0
 have HC0 := Aside0.mk hc0
 clear hr0 hc0
 have HB := ak (Below.refl w.heap.size w)
 have H : ((slices_IndexFunc_73.f k l0 a1).bind fun t345 => (some (decide (t345 ≥ 0)))) = some r := h
 clear h
 replace H := Option.bind_eq_some_iff.mp H
 obtain ⟨t345, A30, H⟩ := H
 replace H : (some (decide (t345 ≥ 0))) = some r := H
 have A3 := Aside0.mk A30
 clear A30
 obtain rfl := Option.some.inj H
 go_enter Try.func72, Try.ntmps72
 go_wp2_with (first | ((with_reducible refine gate_callee (f := 130) rfl ?_); refine goesL_ (some 7) rfl rfl Try.func130 KR rfl #[.slice A0 l0.length c0, .func (.func 73) #[] #[]] rfl AR ?_; (with_reducible refine (slices_IndexFunc_73.calls k _ _ l0 a1 t345 _ ?side1 ?side2 A3.out).mono ?_); (case side1 => exact CR (HR0.out)); (case side2 => exact HC0.out); rintro e w4 ⟨rfl, hb⟩; refine ⟨_, rfl, ?_⟩; replace HB := bs HB hb; (try clear hb); (try clear hb2); (try clear hk); (try clear hi)))
 go_ret
 exact ⟨RT, PB⟩

/-! ### impl_AreCaptures: function 14 -/
def impl_AreCaptures.f (k : Nat) (l0 : List (S40)) : Option (Bool) := if (l0.length : Int) ≤ 20 then ((slices_ContainsFunc_73.f k l0 90000073).bind fun t346 => (some (!t346))) else (some false)
set_option maxHeartbeats 8000000 in
set_option maxRecDepth 100000 in
theorem impl_AreCaptures.calls (k : Nat) (A0 : Option Addr) (c0 : Nat) (l0 : List (S40)) (r : Bool) (w : World) (hr0 : Kd.C k40 w A0 l0.length l0) (hc0 : l0.length ≤ c0) (h : impl_AreCaptures.f k l0 = some r) :
  Calls Try.prog 14 #[.slice A0 l0.length c0] w fun e w' => e = .returned (.bool r) ∧ Below w.heap.size w w' := by
 have HR0 := Aside0.mk hr0
 have HC0 := Aside0.mk hc0
 clear hr0 hc0
 have HB := ak (Below.refl w.heap.size w)
 have H : (if (l0.length : Int) ≤ 20 then ((slices_ContainsFunc_73.f k l0 90000073).bind fun t346 => (some (!t346))) else (some false)) = some r := h
 clear h
 by_cases c2 : (l0.length : Int) ≤ 20
 ·rw [if_pos c2] at H
  have c2b0 : decide ((l0.length : Int) ≤ 20) = true := decide_eq_true c2
  have c2b1 : decide (l0.length ≤ 20) = true := decide_eq_true (by omega)
  clear c2
  replace H := Option.bind_eq_some_iff.mp H
  obtain ⟨t346, A30, H⟩ := H
  replace H : (some (!t346)) = some r := H
  have A3 := Aside0.mk A30
  clear A30
  obtain rfl := Option.some.inj H
  go_enter Try.func14, Try.ntmps14
  go_wp2_with (first | (go_at_call 72; (with_reducible refine (slices_ContainsFunc_73.calls k _ _ l0 90000073 t346 _ ?side1 ?side2 A3.out).mono ?_); (case side1 => exact CR (HR0.out)); (case side2 => exact HC0.out); rintro e w4 ⟨rfl, hb⟩; replace HB := bs HB hb; (try clear hb); (try clear hb2); (try clear hk); (try clear hi)))
  go_ret
  exact ⟨RT, PB⟩
 ·rw [if_neg c2] at H
  have c2b0 : decide ((l0.length : Int) ≤ 20) = false := decide_eq_false c2
  have c2b1 : decide (l0.length ≤ 20) = false := decide_eq_false (by omega)
  clear c2
  obtain rfl := Option.some.inj H
  go_enter Try.func14, Try.ntmps14
  go_wp2
  go_ret
  exact ⟨RT, PB⟩

/-! ### impl_DistanceOf: function 16 -/
def impl_DistanceOf.f (a0_0 : Int) (a0_1 : Int) (a0_2 : Int) (a1_0 : Int) (a1_1 : Int) (a1_2 : Int) : Option (Int) := if (a0_0 == a1_0 && (a0_1 == a1_1 && (a0_2 == a1_2))) = true then (some 0) else (if a0_0 = a1_0 then (if a0_1 = a1_1 then (some 1) else (some 2)) else (some 3))
set_option maxHeartbeats 8000000 in
set_option maxRecDepth 100000 in
theorem impl_DistanceOf.calls (a0_0 : Int) (a0_1 : Int) (a0_2 : Int) (a1_0 : Int) (a1_1 : Int) (a1_2 : Int) (r : Int) (w : World) (h : impl_DistanceOf.f a0_0 a0_1 a0_2 a1_0 a1_1 a1_2 = some r) :
  Calls Try.prog 16 #[.agg #[.int .i64 a0_0, .int .i64 a0_1, .int .i64 a0_2], .agg #[.int .i64 a1_0, .int .i64 a1_1, .int .i64 a1_2]] w fun e w' => e = .returned (.int .i64 r) ∧ Below w.heap.size w w' := by
 have hu26 := Try.underlying26
 have HB := ak (Below.refl w.heap.size w)
 have H : (if (a0_0 == a1_0 && (a0_1 == a1_1 && (a0_2 == a1_2))) = true then (some 0) else (if a0_0 = a1_0 then (if a0_1 = a1_1 then (some 1) else (some 2)) else (some 3))) = some r := h
 clear h
 by_cases c3 : (a0_0 == a1_0 && (a0_1 == a1_1 && (a0_2 == a1_2))) = true
 ·rw [if_pos c3] at H
  have c3b0 : (a0_0 == a1_0 && (a0_1 == a1_1 && (a0_2 == a1_2))) = true := c3
  (try (have c3b1 : decide (a0_0 = a1_0 && (a0_1 == a1_1 && (a0_2 == a1_2))) = true := by simpa using c3))
  (try (have c3b2 : (a0_0 == a1_0 && (a0_1 == a1_1 && (a0_2 == a1_2))) = true := by simpa using c3))
  clear c3
  obtain rfl := Option.some.inj H
  go_enter Try.func16, Try.ntmps16
  go_wp2_with (first | ((with_reducible refine gate_dst (N := 2) rfl ?_); refine bx_ (N := 2) #[.int .i64 a0_0, .int .i64 a0_1, .int .i64 a0_2] 26 ?_; intro gb347 hg w4 hbox hb; have BK347 := ak hbox; have GW347 := gy hg HB; have GE347 := gy hg HB; replace HB := bs HB hb; clear hb hbox hg) | ((with_reducible refine gate_dst (N := 3) rfl ?_); refine bx_ (N := 3) #[.int .i64 a1_0, .int .i64 a1_1, .int .i64 a1_2] 26 ?_; intro gb348 hg w5 hbox hb; have BK348 := ak hbox; have GW348 := gy hg HB; have GE348 := gy hg HB; replace HB := bs HB hb; have NB347_348 := gm hg BK347; have NB348_347 := gn hg BK347; replace BK347 := kf BK347 hb; clear hb hbox hg; have hnb6 := NB347_348.out; have hnc6 := NB348_347.out; obtain ⟨_, _, _, _, _, _⟩ := bc3 BK347; obtain ⟨_, _, _, _, _, _⟩ := bc3 BK348))
  go_ret
  exact ⟨RT, PB⟩
 ·rw [if_neg c3] at H
  have c3b0 : (a0_0 == a1_0 && (a0_1 == a1_1 && (a0_2 == a1_2))) = false := by simpa using c3
  (try (have c3b1 : decide (a0_0 = a1_0 && (a0_1 == a1_1 && (a0_2 == a1_2))) = false := by simpa using c3))
  (try (have c3b2 : (a0_0 == a1_0 && (a0_1 == a1_1 && (a0_2 == a1_2))) = false := by simpa using c3))
  (try (have c3b3 : ¬ (a0_0 = a1_0 && (a0_1 == a1_1 && (a0_2 == a1_2))) := by simpa using c3))
  clear c3
  by_cases c9 : a0_0 = a1_0
  ·rw [if_pos c9] at H
   have c9b0 : (a0_0 == a1_0) = true := beq_iff_eq.mpr c9
   have c3b0zc9b0 : (a0_1 == a1_1 && (a0_2 == a1_2)) = false := by have h_ := c3b0; rw [c9b0] at h_; exact h_
   have c9b1 : (a0_0 != a1_0) = false := bne_eq_false_iff_eq.mpr c9
   clear c9
   by_cases c10 : a0_1 = a1_1
   ·rw [if_pos c10] at H
    have c10b0 : (a0_1 == a1_1) = true := beq_iff_eq.mpr c10
    have c3b0zc9b0zc10b0 : (a0_2 == a1_2) = false := by have h_ := c3b0zc9b0; rw [c10b0] at h_; exact h_
    have c10b1 : (a0_1 != a1_1) = false := bne_eq_false_iff_eq.mpr c10
    clear c10
    obtain rfl := Option.some.inj H
    go_enter Try.func16, Try.ntmps16
    go_wp2_with (first | ((with_reducible refine gate_dst (N := 2) rfl ?_); refine bx_ (N := 2) #[.int .i64 a0_0, .int .i64 a0_1, .int .i64 a0_2] 26 ?_; intro gb347 hg w11 hbox hb; have BK347 := ak hbox; have GW347 := gy hg HB; have GE347 := gy hg HB; replace HB := bs HB hb; clear hb hbox hg) | ((with_reducible refine gate_dst (N := 3) rfl ?_); refine bx_ (N := 3) #[.int .i64 a1_0, .int .i64 a1_1, .int .i64 a1_2] 26 ?_; intro gb348 hg w12 hbox hb; have BK348 := ak hbox; have GW348 := gy hg HB; have GE348 := gy hg HB; replace HB := bs HB hb; have NB347_348 := gm hg BK347; have NB348_347 := gn hg BK347; replace BK347 := kf BK347 hb; clear hb hbox hg; have hnb13 := NB347_348.out; have hnc13 := NB348_347.out; obtain ⟨_, _, _, _, _, _⟩ := bc3 BK347; obtain ⟨_, _, _, _, _, _⟩ := bc3 BK348))
    go_ret
    exact ⟨RT, PB⟩
   ·rw [if_neg c10] at H
    have c10b0 : (a0_1 == a1_1) = false := beq_eq_false_iff_ne.mpr c10
    have c10b1 : (a0_1 != a1_1) = true := bne_iff_ne.mpr c10
    obtain rfl := Option.some.inj H
    go_enter Try.func16, Try.ntmps16
    go_wp2_with (first | ((with_reducible refine gate_dst (N := 2) rfl ?_); refine bx_ (N := 2) #[.int .i64 a0_0, .int .i64 a0_1, .int .i64 a0_2] 26 ?_; intro gb347 hg w16 hbox hb; have BK347 := ak hbox; have GW347 := gy hg HB; have GE347 := gy hg HB; replace HB := bs HB hb; clear hb hbox hg) | ((with_reducible refine gate_dst (N := 3) rfl ?_); refine bx_ (N := 3) #[.int .i64 a1_0, .int .i64 a1_1, .int .i64 a1_2] 26 ?_; intro gb348 hg w17 hbox hb; have BK348 := ak hbox; have GW348 := gy hg HB; have GE348 := gy hg HB; replace HB := bs HB hb; have NB347_348 := gm hg BK347; have NB348_347 := gn hg BK347; replace BK347 := kf BK347 hb; clear hb hbox hg; have hnb18 := NB347_348.out; have hnc18 := NB348_347.out; obtain ⟨_, _, _, _, _, _⟩ := bc3 BK347; obtain ⟨_, _, _, _, _, _⟩ := bc3 BK348))
    go_ret
    exact ⟨RT, PB⟩
  ·rw [if_neg c9] at H
   have c9b0 : (a0_0 == a1_0) = false := beq_eq_false_iff_ne.mpr c9
   have c9b1 : (a0_0 != a1_0) = true := bne_iff_ne.mpr c9
   obtain rfl := Option.some.inj H
   go_enter Try.func16, Try.ntmps16
   go_wp2_with (first | ((with_reducible refine gate_dst (N := 2) rfl ?_); refine bx_ (N := 2) #[.int .i64 a0_0, .int .i64 a0_1, .int .i64 a0_2] 26 ?_; intro gb347 hg w21 hbox hb; have BK347 := ak hbox; have GW347 := gy hg HB; have GE347 := gy hg HB; replace HB := bs HB hb; clear hb hbox hg) | ((with_reducible refine gate_dst (N := 3) rfl ?_); refine bx_ (N := 3) #[.int .i64 a1_0, .int .i64 a1_1, .int .i64 a1_2] 26 ?_; intro gb348 hg w22 hbox hb; have BK348 := ak hbox; have GW348 := gy hg HB; have GE348 := gy hg HB; replace HB := bs HB hb; have NB347_348 := gm hg BK347; have NB348_347 := gn hg BK347; replace BK347 := kf BK347 hb; clear hb hbox hg; have hnb23 := NB347_348.out; have hnc23 := NB348_347.out; obtain ⟨_, _, _, _, _, _⟩ := bc3 BK347; obtain ⟨_, _, _, _, _, _⟩ := bc3 BK348))
   go_ret
   exact ⟨RT, PB⟩

/-! ### impl_distance: function 74 -/
def impl_distance.f (a0 : Int) (a1 : Int) : Option (Int) := some (mx (wrap64 (a0 - a1)) (wrap64 (a1 - a0)))
set_option maxHeartbeats 8000000 in
set_option maxRecDepth 100000 in
theorem impl_distance.calls (a0 : Int) (a1 : Int) (r : Int) (w : World) (h : impl_distance.f a0 a1 = some r) :
  Calls Try.prog 74 #[.int .i64 a0, .int .i64 a1] w fun e w' => e = .returned (.int .i64 r) ∧ Below w.heap.size w w' := by
 have HB := ak (Below.refl w.heap.size w)
 have H : (some (mx (wrap64 (a0 - a1)) (wrap64 (a1 - a0)))) = some r := h
 clear h
 obtain ⟨ji3, hji3⟩ : ∃ j_ : Int, (mx (wrap64 (a0 - a1)) (wrap64 (a1 - a0))) = j_ := ⟨_, rfl⟩
 replace H : (some ji3) = some r := by first | (rw [hji3] at H; exact H) | (simp only [hji3] at H ⊢; exact H)
 have hji3_ : (if (wrap64 (a0 - a1)) < (wrap64 (a1 - a0)) then (wrap64 (a1 - a0)) else (wrap64 (a0 - a1))) = ji3 := hji3
 obtain rfl := Option.some.inj H
 go_enter Try.func74, Try.ntmps74
 go_wp2
 go_ret
 exact ⟨by first | rfl | (simp [errW_none, errW_some] <;> rfl) | (simp only [← hji3]; first | rfl | (simp [errW_none, errW_some] <;> rfl)) | (simp [*, errW_none, errW_some] <;> rfl), PB⟩

end Go.Proofs.Ytgcamebeonodeaa.MFnNearest
