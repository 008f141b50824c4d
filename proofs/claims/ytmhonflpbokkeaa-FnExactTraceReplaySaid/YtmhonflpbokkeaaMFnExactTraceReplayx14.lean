-- Written by a program of this session out of the translation's own print. Not trusted: Lean checks it.
import Derived.Test.YtmhonflpbokkeaaShr2
import Derived.Test.YtmhonflpbokkeaaMFnExactTraceReplayx0
import Derived.Test.YtmhonflpbokkeaaMFnExactTraceReplayx8
import Derived.Test.YtmhonflpbokkeaaMFnExactTraceReplayx1
import Derived.Test.YtmhonflpbokkeaaMFnExactTraceReplayx11
namespace Go.Proofs.Ytmhonflpbokkeaa.MFnExactTraceReplay
open Go.RowKit Go.Proofs.YtmhonflpbokkeaaW.PrintWords Go.Proofs.YtmhonflpbokkeaaW.PrintLast Go.Proofs.YtmhonflpbokkeaaW.PrintMore
attribute [local go_sem] max2_int min2_int max_two min_two max_three min_three max_four min_four   -- for this text's walks alone
set_option linter.unusedVariables false
set_option maxHeartbeats 8000000
set_option maxRecDepth 100000
set_option linter.unusedSimpArgs false

/-! ### impl_IsAddress: function 120 -/
def impl_IsAddress.f (a0_0 : Int) (a0_1 : Int) (a0_2 : Int) : Option (Bool) := (impl_InRange.f a0_0 1 9).bind fun t399 => (if t399 = true then ((impl_InRange.f a0_1 0 99).bind fun t400 => (if t400 = true then ((impl_InRange.f a0_2 0 99).bind fun t401 => (some t401)) else (some false))) else (some false))
theorem impl_IsAddress.calls (a0_0 : Int) (a0_1 : Int) (a0_2 : Int) (r : Bool) (w : World) (h : impl_IsAddress.f a0_0 a0_1 a0_2 = some r) :
  Calls Try.prog 120 #[.agg #[.int .i64 a0_0, .int .i64 a0_1, .int .i64 a0_2]] w fun e w' => e = .returned (.bool r) ∧ Below w.heap.size w w' := by
 have hu89 := Try.underlying89; have HB := ak (Below.refl w.heap.size w); have H := h; clear h; unfold impl_IsAddress.f at H; replace H := Option.bind_eq_some_iff.mp H; obtain ⟨t399, A20, H⟩ := H; (try dsimp only at H); have A2 := ak A20; clear A20
 by_cases c3 : t399 = true
 ·subst c3; rw [if_pos rfl] at H; replace H := Option.bind_eq_some_iff.mp H; obtain ⟨t400, A40, H⟩ := H; (try dsimp only at H); have A4 := ak A40; clear A40
  by_cases c5 : t400 = true
  ·subst c5; rw [if_pos rfl] at H; replace H := Option.bind_eq_some_iff.mp H; obtain ⟨t401, A60, H⟩ := H; (try dsimp only at H); have A6 := ak A60; clear A60; obtain rfl := Option.some.inj H; go_enter Try.func120, Try.ntmps120; go_wp2_with (first | ((with_reducible refine gate_dst (N := 1) rfl ?_); refine bx_ (N := 1) #[.int .i64 a0_0, .int .i64 a0_1, .int .i64 a0_2] 89 ?_; intro gb398 hg w7 hbox hb; have BK398 := ak hbox; have GW398 := gy hg HB; have GE398 := gy hg HB; replace HB := bs HB hb; clear hb hbox hg; obtain ⟨_, _, _, _, _, _⟩ := bc3 BK398) | ((with_reducible refine gate_callee (f := 95) rfl ?_); refine goesL_ (some 5) rfl rfl Try.func95 KR rfl #[.int .i64 a0_0, .int .i64 1, .int .i64 9] rfl AR ?_; (with_reducible refine (impl_InRange.calls a0_0 1 9 true _ A2.out).mono ?_); rintro e w' ⟨rfl, ⟨nd, rfl⟩⟩; refine ⟨_, rfl, ?_⟩) | (go_at_call 95; (with_reducible refine (impl_InRange.calls a0_1 0 99 true _ A4.out).mono ?_); rintro e w' ⟨rfl, ⟨nd, rfl⟩⟩) | (go_at_call 95; (with_reducible refine (impl_InRange.calls a0_2 0 99 t401 _ A6.out).mono ?_); rintro e w' ⟨rfl, ⟨nd, rfl⟩⟩))
   go_ret
   exact ⟨RT, PB⟩
  ·replace c5 := Bool.eq_false_iff.mpr c5; subst c5; rw [if_neg (show ¬ (false = true) by decide)] at H; obtain rfl := Option.some.inj H; go_enter Try.func120, Try.ntmps120; go_wp2_with (first | ((with_reducible refine gate_dst (N := 1) rfl ?_); refine bx_ (N := 1) #[.int .i64 a0_0, .int .i64 a0_1, .int .i64 a0_2] 89 ?_; intro gb398 hg w9 hbox hb; have BK398 := ak hbox; have GW398 := gy hg HB; have GE398 := gy hg HB; replace HB := bs HB hb; clear hb hbox hg; obtain ⟨_, _, _, _, _, _⟩ := bc3 BK398) | ((with_reducible refine gate_callee (f := 95) rfl ?_); refine goesL_ (some 5) rfl rfl Try.func95 KR rfl #[.int .i64 a0_0, .int .i64 1, .int .i64 9] rfl AR ?_; (with_reducible refine (impl_InRange.calls a0_0 1 9 true _ A2.out).mono ?_); rintro e w' ⟨rfl, ⟨nd, rfl⟩⟩; refine ⟨_, rfl, ?_⟩) | (go_at_call 95; (with_reducible refine (impl_InRange.calls a0_1 0 99 false _ A4.out).mono ?_); rintro e w' ⟨rfl, ⟨nd, rfl⟩⟩))
   go_ret
   exact ⟨RT, PB⟩
 ·replace c3 := Bool.eq_false_iff.mpr c3; subst c3; rw [if_neg (show ¬ (false = true) by decide)] at H; obtain rfl := Option.some.inj H; go_enter Try.func120, Try.ntmps120; go_wp2_with (first | ((with_reducible refine gate_dst (N := 1) rfl ?_); refine bx_ (N := 1) #[.int .i64 a0_0, .int .i64 a0_1, .int .i64 a0_2] 89 ?_; intro gb398 hg w11 hbox hb; have BK398 := ak hbox; have GW398 := gy hg HB; have GE398 := gy hg HB; replace HB := bs HB hb; clear hb hbox hg; obtain ⟨_, _, _, _, _, _⟩ := bc3 BK398) | ((with_reducible refine gate_callee (f := 95) rfl ?_); refine goesL_ (some 5) rfl rfl Try.func95 KR rfl #[.int .i64 a0_0, .int .i64 1, .int .i64 9] rfl AR ?_; (with_reducible refine (impl_InRange.calls a0_0 1 9 false _ A2.out).mono ?_); rintro e w' ⟨rfl, ⟨nd, rfl⟩⟩; refine ⟨_, rfl, ?_⟩))
  go_ret
  exact ⟨RT, PB⟩

attribute [local go_sem high] eqA89
/-! ### impl_AreEntries_lit1: function 167 -/
def impl_AreEntries_lit1.f (a0_0 : Int) (a0_1 : Int) (a0_2 : Int) (a0_3 : Int) (a0_4 : Int) : Option (Bool) := if a0_0 = 1 then ((impl_IsAddress.f a0_1 a0_2 a0_3).bind fun t403 => (if t403 = true then ((impl_InRange.f a0_4 0 999).bind fun t404 => (some (!t404))) else (some true))) else ((impl_Asks.f a0_0).bind fun t405 => (if t405 = true then (if (!(a0_1 == 0) || (!(a0_2 == 0) || (!(a0_3 == 0)))) = true then (some true) else ((impl_InRange.f a0_4 0 999).bind fun t406 => (some (!t406)))) else (some true)))
theorem impl_AreEntries_lit1.calls (a0_0 : Int) (a0_1 : Int) (a0_2 : Int) (a0_3 : Int) (a0_4 : Int) (r : Bool) (w : World) (h : impl_AreEntries_lit1.f a0_0 a0_1 a0_2 a0_3 a0_4 = some r) :
  Calls Try.prog 167 #[.agg #[.int .i64 a0_0, .int .i64 a0_1, .int .i64 a0_2, .int .i64 a0_3, .int .i64 a0_4]] w fun e w' => e = .returned (.bool r) ∧ Below w.heap.size w w' := by
 have hu107 := Try.underlying107; have hu89 := Try.underlying89; have HB := ak (Below.refl w.heap.size w); have H := h; clear h; unfold impl_AreEntries_lit1.f at H
 by_cases c2 : a0_0 = 1
 ·rw [if_pos c2] at H; have c2b0 : (a0_0 == 1) = true := beq_iff_eq.mpr c2; have c2b1 : (a0_0 != 1) = false := bne_eq_false_iff_eq.mpr c2; clear c2; replace H := Option.bind_eq_some_iff.mp H; obtain ⟨t403, A30, H⟩ := H; (try dsimp only at H); have A3 := ak A30; clear A30
  by_cases c4 : t403 = true
  ·subst c4; rw [if_pos rfl] at H; replace H := Option.bind_eq_some_iff.mp H; obtain ⟨t404, A50, H⟩ := H; (try dsimp only at H); have A5 := ak A50; clear A50; obtain rfl := Option.some.inj H; go_enter Try.func167, Try.ntmps167; go_wp2_with (first | ((with_reducible refine gate_dst (N := 1) rfl ?_); refine bx_ (N := 1) #[.int .i64 a0_0, .int .i64 a0_1, .int .i64 a0_2, .int .i64 a0_3, .int .i64 a0_4] 107 ?_; intro gb402 hg w6 hbox hb; have BK402 := ak hbox; have GW402 := gy hg HB; have GE402 := gy hg HB; replace HB := bs HB hb; clear hb hbox hg; obtain ⟨_, _, _, _, _, _, _, _, _, _⟩ := bc5 BK402) | ((with_reducible refine gate_callee (f := 120) rfl ?_); refine goesL_ (some 8) rfl rfl Try.func120 KR rfl #[.agg #[.int .i64 a0_1, .int .i64 a0_2, .int .i64 a0_3]] rfl AR ?_; (with_reducible refine (impl_IsAddress.calls a0_1 a0_2 a0_3 true _ A3.out).mono ?_); rintro e w8 ⟨rfl, hb⟩; refine ⟨_, rfl, ?_⟩; replace BK402 := kf BK402 hb; replace HB := bs HB hb; clear hb; obtain ⟨_, _, _, _, _, _, _, _, _, _⟩ := bc5 BK402) | (go_at_call 95; (with_reducible refine (impl_InRange.calls a0_4 0 999 t404 _ A5.out).mono ?_); rintro e w' ⟨rfl, ⟨nd, rfl⟩⟩))
   go_ret
   exact ⟨RT, PB⟩
  ·replace c4 := Bool.eq_false_iff.mpr c4; subst c4; rw [if_neg (show ¬ (false = true) by decide)] at H; obtain rfl := Option.some.inj H; go_enter Try.func167, Try.ntmps167; go_wp2_with (first | ((with_reducible refine gate_dst (N := 1) rfl ?_); refine bx_ (N := 1) #[.int .i64 a0_0, .int .i64 a0_1, .int .i64 a0_2, .int .i64 a0_3, .int .i64 a0_4] 107 ?_; intro gb402 hg w10 hbox hb; have BK402 := ak hbox; have GW402 := gy hg HB; have GE402 := gy hg HB; replace HB := bs HB hb; clear hb hbox hg; obtain ⟨_, _, _, _, _, _, _, _, _, _⟩ := bc5 BK402) | ((with_reducible refine gate_callee (f := 120) rfl ?_); refine goesL_ (some 8) rfl rfl Try.func120 KR rfl #[.agg #[.int .i64 a0_1, .int .i64 a0_2, .int .i64 a0_3]] rfl AR ?_; (with_reducible refine (impl_IsAddress.calls a0_1 a0_2 a0_3 false _ A3.out).mono ?_); rintro e w12 ⟨rfl, hb⟩; refine ⟨_, rfl, ?_⟩; replace BK402 := kf BK402 hb; replace HB := bs HB hb; clear hb))
   go_ret
   exact ⟨RT, PB⟩
 ·rw [if_neg c2] at H; have c2b0 : (a0_0 == 1) = false := beq_eq_false_iff_ne.mpr c2; have c2b1 : (a0_0 != 1) = true := bne_iff_ne.mpr c2; replace H := Option.bind_eq_some_iff.mp H; obtain ⟨t405, A130, H⟩ := H; (try dsimp only at H); have A13 := ak A130; clear A130
  by_cases c14 : t405 = true
  ·subst c14; rw [if_pos rfl] at H
   by_cases c15 : (!(a0_1 == 0) || (!(a0_2 == 0) || (!(a0_3 == 0)))) = true
   ·rw [if_pos c15] at H; have c15b0 : (!(a0_1 == 0) || (!(a0_2 == 0) || (!(a0_3 == 0)))) = true := c15; clear c15; obtain rfl := Option.some.inj H; go_enter Try.func167, Try.ntmps167; go_wp2_with (first | ((with_reducible refine gate_dst (N := 1) rfl ?_); refine bx_ (N := 1) #[.int .i64 a0_0, .int .i64 a0_1, .int .i64 a0_2, .int .i64 a0_3, .int .i64 a0_4] 107 ?_; intro gb402 hg w16 hbox hb; have BK402 := ak hbox; have GW402 := gy hg HB; have GE402 := gy hg HB; replace HB := bs HB hb; clear hb hbox hg; obtain ⟨_, _, _, _, _, _, _, _, _, _⟩ := bc5 BK402) | ((with_reducible refine gate_callee (f := 147) rfl ?_); refine goesL_ (some 18) rfl rfl Try.func147 KR rfl #[.int .i64 a0_0] rfl AR ?_; (with_reducible refine (impl_Asks.calls a0_0 true _ A13.out).mono ?_); rintro e w' ⟨rfl, ⟨nd, rfl⟩⟩; refine ⟨_, rfl, ?_⟩))
    go_ret
    exact ⟨RT, PB⟩
   ·rw [if_neg c15] at H
    have c15b0 : (!(a0_1 == 0) || (!(a0_2 == 0) || (!(a0_3 == 0)))) = false := by simpa using c15
    clear c15; replace H := Option.bind_eq_some_iff.mp H; obtain ⟨t406, A180, H⟩ := H; (try dsimp only at H); have A18 := ak A180; clear A180; obtain rfl := Option.some.inj H; go_enter Try.func167, Try.ntmps167; go_wp2_with (first | ((with_reducible refine gate_dst (N := 1) rfl ?_); refine bx_ (N := 1) #[.int .i64 a0_0, .int .i64 a0_1, .int .i64 a0_2, .int .i64 a0_3, .int .i64 a0_4] 107 ?_; intro gb402 hg w19 hbox hb; have BK402 := ak hbox; have GW402 := gy hg HB; have GE402 := gy hg HB; replace HB := bs HB hb; clear hb hbox hg; obtain ⟨_, _, _, _, _, _, _, _, _, _⟩ := bc5 BK402) | ((with_reducible refine gate_callee (f := 147) rfl ?_); refine goesL_ (some 18) rfl rfl Try.func147 KR rfl #[.int .i64 a0_0] rfl AR ?_; (with_reducible refine (impl_Asks.calls a0_0 true _ A13.out).mono ?_); rintro e w' ⟨rfl, ⟨nd, rfl⟩⟩; refine ⟨_, rfl, ?_⟩) | (go_at_call 95; (with_reducible refine (impl_InRange.calls a0_4 0 999 t406 _ A18.out).mono ?_); rintro e w' ⟨rfl, ⟨nd, rfl⟩⟩))
    go_ret
    exact ⟨RT, PB⟩
  ·replace c14 := Bool.eq_false_iff.mpr c14; subst c14; rw [if_neg (show ¬ (false = true) by decide)] at H; obtain rfl := Option.some.inj H; go_enter Try.func167, Try.ntmps167; go_wp2_with (first | ((with_reducible refine gate_dst (N := 1) rfl ?_); refine bx_ (N := 1) #[.int .i64 a0_0, .int .i64 a0_1, .int .i64 a0_2, .int .i64 a0_3, .int .i64 a0_4] 107 ?_; intro gb402 hg w21 hbox hb; have BK402 := ak hbox; have GW402 := gy hg HB; have GE402 := gy hg HB; replace HB := bs HB hb; clear hb hbox hg; obtain ⟨_, _, _, _, _, _, _, _, _, _⟩ := bc5 BK402) | ((with_reducible refine gate_callee (f := 147) rfl ?_); refine goesL_ (some 18) rfl rfl Try.func147 KR rfl #[.int .i64 a0_0] rfl AR ?_; (with_reducible refine (impl_Asks.calls a0_0 false _ A13.out).mono ?_); rintro e w' ⟨rfl, ⟨nd, rfl⟩⟩; refine ⟨_, rfl, ?_⟩))
   go_ret
   exact ⟨RT, PB⟩

/-! ### slices_IndexFunc_167: function 187 -/
def slices_IndexFunc_167.l0 : Nat → List (S107) → Int → Int → Option (Int)
  | 0, _, _, _ => none
  | k + 1, x0, x7, x8 => if x8 < x7 then (if 0 ≤ x8 then (if x8 < (x0.length : Int) then ((impl_AreEntries_lit1.f ((rd_T107 x0 x8).f0) ((rd_T107 x0 x8).f1.f0) ((rd_T107 x0 x8).f1.f1) ((rd_T107 x0 x8).f1.f2) ((rd_T107 x0 x8).f2)).bind fun t408 => (if t408 = true then (some x8) else (slices_IndexFunc_167.l0 k x0 x7 (wrap64 (x8 + 1))))) else (none)) else (none)) else (some (-1))
def slices_IndexFunc_167.f (k : Nat) (l0 : List (S107)) (a1 : Int) : Option (Int) := slices_IndexFunc_167.l0 k l0 (l0.length : Int) 0
theorem slices_IndexFunc_167.calls (k : Nat) (A0 : Option Addr) (c0 : Nat) (l0 : List (S107)) (a1 : Int) (r : Int) (w : World) (hr0 : Kd.C k107 w A0 l0.length l0) (hc0 : l0.length ≤ c0) (h : slices_IndexFunc_167.f k l0 a1 = some r) :
  Calls Try.prog 187 #[.slice A0 l0.length c0, .func (.func 167) #[] #[]] w fun e w' => e = .returned (.int .i64 r) ∧ Below w.heap.size w w' := by
 have hu107 := Try.underlying107; have HR0 := ak hr0; have HC0 := ak hc0; clear hr0 hc0; have HB := ak (Below.refl w.heap.size w); have H := h; clear h; unfold slices_IndexFunc_167.f at H; have H' := ak H; clear H; go_enter Try.func187, Try.ntmps187; go_wp2
 go_loopg [8] k (fun kq v8 w' => ∃ (x8_1 : Int), v8 = .int .i64 x8_1 ∧ Aside0 (slices_IndexFunc_167.l0 kq l0 (l0.length : Int) x8_1 = some r) ∧ Aside0 (kq ≤ k) ∧ Aside0 (Below w.heap.size w w'))
 case atStart => exact ⟨(0), (by first | rfl | (simp; done) | (simp [*]; done)), H', ⟨Nat.le_refl _⟩, ⟨PB⟩⟩
 case round =>
  clear H'
  try clear p2
  obtain ⟨x8_1, rfl, HA, HK1, HB⟩ := hrel
  cases gk with
  | zero => exact absurd HA.out (by simp [slices_IndexFunc_167.l0])
  | succ k1 =>
   have H := HA.out; clear HA; simp only [slices_IndexFunc_167.l0] at H
   by_cases c3 : x8_1 < (l0.length : Int)
   ·rw [if_pos c3] at H; have c3b0 : decide (x8_1 < (l0.length : Int)) = true := decide_eq_true c3; clear c3
    by_cases c4 : 0 ≤ x8_1
    ·rw [if_pos c4] at H; have c4b0 : decide (0 ≤ x8_1) = true := decide_eq_true c4; clear c4
     by_cases c5 : x8_1 < (l0.length : Int)
     ·rw [if_pos c5] at H; have c5b0 : decide (x8_1 < (l0.length : Int)) = true := decide_eq_true c5; clear c5; replace H := Option.bind_eq_some_iff.mp H; obtain ⟨t408, A60, H⟩ := H; (try dsimp only at H); have A6 := ak A60; clear A60
      by_cases c7 : t408 = true
      ·subst c7; rw [if_pos rfl] at H; obtain rfl := Option.some.inj H; have p407 : 0 ≤ (x8_1 : Int) := od; have q407 : x8_1 < (l0.length : Int) := od; obtain ⟨ad407, e407, hx407_0, hx407_1, hx407_2, hx407_3, hx407_4⟩ := at_T107 HR0.out x8_1 p407 q407; cases e407; replace hx407_0 := hx_ HB hx407_0; replace hx407_1 := hx_ HB hx407_1; replace hx407_2 := hx_ HB hx407_2; replace hx407_3 := hx_ HB hx407_3; replace hx407_4 := hx_ HB hx407_4; replace p407 := eq_true p407; replace q407 := eq_true q407; go_wp2_with (first | ((with_reducible refine gate_calleeV (n := 11) rfl ?_); refine goesLV_ (some 16) rfl rfl Try.func167 KR rfl #[.agg #[.int .i64 ((rd_T107 l0 x8_1).f0), .int .i64 ((rd_T107 l0 x8_1).f1.f0), .int .i64 ((rd_T107 l0 x8_1).f1.f1), .int .i64 ((rd_T107 l0 x8_1).f1.f2), .int .i64 ((rd_T107 l0 x8_1).f2)]] rfl AR ?_; (with_reducible refine (impl_AreEntries_lit1.calls ((rd_T107 l0 x8_1).f0) ((rd_T107 l0 x8_1).f1.f0) ((rd_T107 l0 x8_1).f1.f1) ((rd_T107 l0 x8_1).f1.f2) ((rd_T107 l0 x8_1).f2) true _ A6.out).mono ?_); rintro e w8 ⟨rfl, hb⟩; refine ⟨_, rfl, ?_⟩; replace HB := bs HB hb; clear hb))
       go_ret
       exact ⟨RT, PB⟩
      ·replace c7 := Bool.eq_false_iff.mpr c7; subst c7; rw [if_neg (show ¬ (false = true) by decide)] at H; have H' := ak H; clear H; have p407 : 0 ≤ (x8_1 : Int) := od; have q407 : x8_1 < (l0.length : Int) := od; obtain ⟨ad407, e407, hx407_0, hx407_1, hx407_2, hx407_3, hx407_4⟩ := at_T107 HR0.out x8_1 p407 q407; cases e407; replace hx407_0 := hx_ HB hx407_0; replace hx407_1 := hx_ HB hx407_1; replace hx407_2 := hx_ HB hx407_2; replace hx407_3 := hx_ HB hx407_3; replace hx407_4 := hx_ HB hx407_4; replace p407 := eq_true p407; replace q407 := eq_true q407; go_wp2_with (first | ((with_reducible refine gate_calleeV (n := 11) rfl ?_); refine goesLV_ (some 16) rfl rfl Try.func167 KR rfl #[.agg #[.int .i64 ((rd_T107 l0 x8_1).f0), .int .i64 ((rd_T107 l0 x8_1).f1.f0), .int .i64 ((rd_T107 l0 x8_1).f1.f1), .int .i64 ((rd_T107 l0 x8_1).f1.f2), .int .i64 ((rd_T107 l0 x8_1).f2)]] rfl AR ?_; (with_reducible refine (impl_AreEntries_lit1.calls ((rd_T107 l0 x8_1).f0) ((rd_T107 l0 x8_1).f1.f0) ((rd_T107 l0 x8_1).f1.f1) ((rd_T107 l0 x8_1).f1.f2) ((rd_T107 l0 x8_1).f2) false _ A6.out).mono ?_); rintro e w9 ⟨rfl, hb⟩; refine ⟨_, rfl, ?_⟩; replace HB := bs HB hb; clear hb))
       go_roundg k1
       case measure => have := HK1.out; omega
       case rel => exact ⟨(wrap64 (x8_1 + 1)), (by first | rfl | (simp; done) | (simp [*]; done)), H', ⟨by have := HK1.out; omega⟩, ⟨PB⟩⟩
     ·rw [if_neg c5] at H; exact absurd H (by simp)
    ·rw [if_neg c4] at H; exact absurd H (by simp)
   ·rw [if_neg c3] at H; have c3b0 : decide (x8_1 < (l0.length : Int)) = false := decide_eq_false c3; clear c3; obtain rfl := Option.some.inj H; go_wp2
    go_ret
    exact ⟨RT, PB⟩

/-! ### slices_ContainsFunc_167: function 166 -/
def slices_ContainsFunc_167.f (k : Nat) (l0 : List (S107)) (a1 : Int) : Option (Bool) := (slices_IndexFunc_167.f k l0 a1).bind fun t409 => (some (decide (t409 ≥ 0)))
theorem slices_ContainsFunc_167.calls (k : Nat) (A0 : Option Addr) (c0 : Nat) (l0 : List (S107)) (a1 : Int) (r : Bool) (w : World) (hr0 : Kd.C k107 w A0 l0.length l0) (hc0 : l0.length ≤ c0) (h : slices_ContainsFunc_167.f k l0 a1 = some r) :
  Calls Try.prog 166 #[.slice A0 l0.length c0, .func (.func 167) #[] #[]] w fun e w' => e = .returned (.bool r) ∧ Below w.heap.size w w' := by
 have HR0 := ak hr0; have HC0 := ak hc0; clear hr0 hc0; have HB := ak (Below.refl w.heap.size w); have H := h; clear h; unfold slices_ContainsFunc_167.f at H; replace H := Option.bind_eq_some_iff.mp H; obtain ⟨t409, A30, H⟩ := H; (try dsimp only at H); have A3 := ak A30; clear A30; obtain rfl := Option.some.inj H; go_enter Try.func166, Try.ntmps166; go_wp2_with (first | ((with_reducible refine gate_callee (f := 187) rfl ?_); refine goesL_ (some 7) rfl rfl Try.func187 KR rfl #[.slice A0 l0.length c0, .func (.func 167) #[] #[]] rfl AR ?_; (with_reducible refine (slices_IndexFunc_167.calls k _ _ l0 a1 t409 _ ?side1 ?side2 A3.out).mono ?_); (case side1 => exact CR (HR0.out)); (case side2 => exact HC0.out); rintro e w4 ⟨rfl, hb⟩; refine ⟨_, rfl, ?_⟩; replace HB := bs HB hb; clear hb))
 go_ret
 exact ⟨RT, PB⟩

/-! ### impl_AreEntries: function 125 -/
def impl_AreEntries.f (k : Nat) (l0 : List (S107)) : Option (Bool) := if (l0.length : Int) ≤ 16 then ((slices_ContainsFunc_167.f k l0 90000167).bind fun t410 => (some (!t410))) else (some false)
theorem impl_AreEntries.calls (k : Nat) (A0 : Option Addr) (c0 : Nat) (l0 : List (S107)) (r : Bool) (w : World) (hr0 : Kd.C k107 w A0 l0.length l0) (hc0 : l0.length ≤ c0) (h : impl_AreEntries.f k l0 = some r) :
  Calls Try.prog 125 #[.slice A0 l0.length c0] w fun e w' => e = .returned (.bool r) ∧ Below w.heap.size w w' := by
 have HR0 := ak hr0; have HC0 := ak hc0; clear hr0 hc0; have HB := ak (Below.refl w.heap.size w); have H := h; clear h; unfold impl_AreEntries.f at H
 by_cases c2 : (l0.length : Int) ≤ 16
 ·rw [if_pos c2] at H; have c2b0 : decide ((l0.length : Int) ≤ 16) = true := decide_eq_true c2; have c2b1 : decide (l0.length ≤ 16) = true := decide_eq_true (by omega); clear c2; replace H := Option.bind_eq_some_iff.mp H; obtain ⟨t410, A30, H⟩ := H; (try dsimp only at H); have A3 := ak A30; clear A30; obtain rfl := Option.some.inj H; go_enter Try.func125, Try.ntmps125; go_wp2_with (first | (go_at_call 166; (with_reducible refine (slices_ContainsFunc_167.calls k _ _ l0 90000167 t410 _ ?side1 ?side2 A3.out).mono ?_); (case side1 => exact CR (HR0.out)); (case side2 => exact HC0.out); rintro e w4 ⟨rfl, hb⟩; replace HB := bs HB hb; clear hb))
  go_ret
  exact ⟨RT, PB⟩
 ·rw [if_neg c2] at H; have c2b0 : decide ((l0.length : Int) ≤ 16) = false := decide_eq_false c2; have c2b1 : decide (l0.length ≤ 16) = false := decide_eq_false (by omega); clear c2; obtain rfl := Option.some.inj H; go_enter Try.func125, Try.ntmps125; go_wp2
  go_ret
  exact ⟨RT, PB⟩

end Go.Proofs.Ytmhonflpbokkeaa.MFnExactTraceReplay
