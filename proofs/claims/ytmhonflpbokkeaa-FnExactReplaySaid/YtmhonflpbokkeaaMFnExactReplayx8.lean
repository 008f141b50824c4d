-- Written by a program of this session out of the translation's own print. Not trusted: Lean checks it.
import Derived.Test.YtmhonflpbokkeaaShr2
import Derived.Test.YtmhonflpbokkeaaMFnExactReplayx0
import Derived.Test.YtmhonflpbokkeaaMFnExactReplayx3
import Derived.Test.YtmhonflpbokkeaaMFnExactReplayx1
import Derived.Test.YtmhonflpbokkeaaMFnExactReplayx4
namespace Go.Proofs.Ytmhonflpbokkeaa.MFnExactReplay
open Go.RowKit Go.Proofs.YtmhonflpbokkeaaW.PrintWords Go.Proofs.YtmhonflpbokkeaaW.PrintLast Go.Proofs.YtmhonflpbokkeaaW.PrintMore
attribute [local go_sem] max2_int min2_int max_two min_two max_three min_three max_four min_four   -- for this text's walks alone
set_option linter.unusedVariables false
set_option maxHeartbeats 8000000
set_option maxRecDepth 100000
set_option linter.unusedSimpArgs false

/-! ### spec_IsAddress: function 137 -/
def spec_IsAddress.f (a0_0 : Int) (a0_1 : Int) (a0_2 : Int) : Option (Bool) := (spec_l1In.f a0_0 1 9).bind fun t253 => (if t253 = true then ((spec_l1In.f a0_1 0 99).bind fun t254 => (if t254 = true then ((spec_l1In.f a0_2 0 99).bind fun t255 => (some t255)) else (some false))) else (some false))
theorem spec_IsAddress.calls (a0_0 : Int) (a0_1 : Int) (a0_2 : Int) (r : Bool) (w : World) (h : spec_IsAddress.f a0_0 a0_1 a0_2 = some r) :
  Calls Try.prog 137 #[.agg #[.int .i64 a0_0, .int .i64 a0_1, .int .i64 a0_2]] w fun e w' => e = .returned (.bool r) ∧ Below w.heap.size w w' := by
 have hu89 := Try.underlying89; have HB := ak (Below.refl w.heap.size w); have H := h; clear h; unfold spec_IsAddress.f at H; replace H := Option.bind_eq_some_iff.mp H; obtain ⟨t253, A20, H⟩ := H; (try dsimp only at H); have A2 := ak A20; clear A20
 by_cases c3 : t253 = true
 ·subst c3; rw [if_pos rfl] at H; replace H := Option.bind_eq_some_iff.mp H; obtain ⟨t254, A40, H⟩ := H; (try dsimp only at H); have A4 := ak A40; clear A40
  by_cases c5 : t254 = true
  ·subst c5; rw [if_pos rfl] at H; replace H := Option.bind_eq_some_iff.mp H; obtain ⟨t255, A60, H⟩ := H; (try dsimp only at H); have A6 := ak A60; clear A60; obtain rfl := Option.some.inj H; go_enter Try.func137, Try.ntmps137; go_wp2_with (first | ((with_reducible refine gate_dst (N := 1) rfl ?_); refine bx_ (N := 1) #[.int .i64 a0_0, .int .i64 a0_1, .int .i64 a0_2] 89 ?_; intro gb252 hg w7 hbox hb; have BK252 := ak hbox; have GW252 := gy hg HB; have GE252 := gy hg HB; replace HB := bs HB hb; clear hb hbox hg; obtain ⟨_, _, _, _, _, _⟩ := bc3 BK252) | ((with_reducible refine gate_callee (f := 82) rfl ?_); refine goesL_ (some 5) rfl rfl Try.func82 KR rfl #[.int .i64 a0_0, .int .i64 1, .int .i64 9] rfl AR ?_; (with_reducible refine (spec_l1In.calls a0_0 1 9 true _ A2.out).mono ?_); rintro e w' ⟨rfl, ⟨nd, rfl⟩⟩; refine ⟨_, rfl, ?_⟩) | (go_at_call 82; (with_reducible refine (spec_l1In.calls a0_1 0 99 true _ A4.out).mono ?_); rintro e w' ⟨rfl, ⟨nd, rfl⟩⟩) | (go_at_call 82; (with_reducible refine (spec_l1In.calls a0_2 0 99 t255 _ A6.out).mono ?_); rintro e w' ⟨rfl, ⟨nd, rfl⟩⟩))
   go_ret
   exact ⟨RT, PB⟩
  ·replace c5 := Bool.eq_false_iff.mpr c5; subst c5; rw [if_neg (show ¬ (false = true) by decide)] at H; obtain rfl := Option.some.inj H; go_enter Try.func137, Try.ntmps137; go_wp2_with (first | ((with_reducible refine gate_dst (N := 1) rfl ?_); refine bx_ (N := 1) #[.int .i64 a0_0, .int .i64 a0_1, .int .i64 a0_2] 89 ?_; intro gb252 hg w9 hbox hb; have BK252 := ak hbox; have GW252 := gy hg HB; have GE252 := gy hg HB; replace HB := bs HB hb; clear hb hbox hg; obtain ⟨_, _, _, _, _, _⟩ := bc3 BK252) | ((with_reducible refine gate_callee (f := 82) rfl ?_); refine goesL_ (some 5) rfl rfl Try.func82 KR rfl #[.int .i64 a0_0, .int .i64 1, .int .i64 9] rfl AR ?_; (with_reducible refine (spec_l1In.calls a0_0 1 9 true _ A2.out).mono ?_); rintro e w' ⟨rfl, ⟨nd, rfl⟩⟩; refine ⟨_, rfl, ?_⟩) | (go_at_call 82; (with_reducible refine (spec_l1In.calls a0_1 0 99 false _ A4.out).mono ?_); rintro e w' ⟨rfl, ⟨nd, rfl⟩⟩))
   go_ret
   exact ⟨RT, PB⟩
 ·replace c3 := Bool.eq_false_iff.mpr c3; subst c3; rw [if_neg (show ¬ (false = true) by decide)] at H; obtain rfl := Option.some.inj H; go_enter Try.func137, Try.ntmps137; go_wp2_with (first | ((with_reducible refine gate_dst (N := 1) rfl ?_); refine bx_ (N := 1) #[.int .i64 a0_0, .int .i64 a0_1, .int .i64 a0_2] 89 ?_; intro gb252 hg w11 hbox hb; have BK252 := ak hbox; have GW252 := gy hg HB; have GE252 := gy hg HB; replace HB := bs HB hb; clear hb hbox hg; obtain ⟨hcz12_0, hcz12_1, hcz12_2, hfz12_0, hfz12_1, hfz12_2⟩ := bc3 BK252) | ((with_reducible refine gate_callee (f := 82) rfl ?_); refine goesL_ (some 5) rfl rfl Try.func82 KR rfl #[.int .i64 a0_0, .int .i64 1, .int .i64 9] rfl AR ?_; (with_reducible refine (spec_l1In.calls a0_0 1 9 false _ A2.out).mono ?_); rintro e w' ⟨rfl, ⟨nd, rfl⟩⟩; refine ⟨_, rfl, ?_⟩))
  go_ret
  exact ⟨RT, PB⟩

attribute [local go_sem high] eqA89
/-! ### spec_AreEntries: function 123 -/
def spec_AreEntries.l0 : Nat → List (S107) → Int → Option (Bool)
  | 0, _, _ => none
  | k + 1, x0, x3 => if x3 < (x0.length : Int) then (if 0 ≤ x3 then ((spec_Asks.f ((rd_T107 x0 x3).f0)).bind fun t258 => (if t258 = true then ((spec_l1In.f ((rd_T107 x0 x3).f2) 0 999).bind fun t259 => (if t259 = true then (if ((rd_T107 x0 x3).f0) = 1 then ((spec_IsAddress.f ((rd_T107 x0 x3).f1.f0) ((rd_T107 x0 x3).f1.f1) ((rd_T107 x0 x3).f1.f2)).bind fun t260 => (if t260 = true then (spec_AreEntries.l0 k x0 (wrap64 (x3 + 1))) else (some false))) else (if (!(((rd_T107 x0 x3).f1.f0) == 0) || (!(((rd_T107 x0 x3).f1.f1) == 0) || (!(((rd_T107 x0 x3).f1.f2) == 0)))) = true then (some false) else (spec_AreEntries.l0 k x0 (wrap64 (x3 + 1))))) else (some false))) else (some false))) else (none)) else (some (decide ((x0.length : Int) ≤ 16)))
def spec_AreEntries.f (k : Nat) (l0 : List (S107)) : Option (Bool) := spec_AreEntries.l0 k l0 0
theorem spec_AreEntries.calls (k : Nat) (A0 : Option Addr) (c0 : Nat) (l0 : List (S107)) (r : Bool) (w : World) (hr0 : Kd.C k107 w A0 l0.length l0) (hc0 : l0.length ≤ c0) (h : spec_AreEntries.f k l0 = some r) :
  Calls Try.prog 123 #[.slice A0 l0.length c0] w fun e w' => e = .returned (.bool r) ∧ Below w.heap.size w w' := by
 have hu107 := Try.underlying107; have hu89 := Try.underlying89; have HR0 := ak hr0; have HC0 := ak hc0; clear hr0 hc0; have HB := ak (Below.refl w.heap.size w); have H := h; clear h; unfold spec_AreEntries.f at H; have H' := ak H; clear H; go_enter Try.func123, Try.ntmps123; go_wp2
 go_loopg [3] k (fun kq v3 w' => ∃ (x3_1 : Int), v3 = .int .i64 x3_1 ∧ Aside0 (spec_AreEntries.l0 kq l0 x3_1 = some r) ∧ Aside0 (kq ≤ k) ∧ Aside0 (Below w.heap.size w w'))
 case atStart => exact ⟨(0), (by first | rfl | (simp; done) | (simp [*]; done)), H', ⟨Nat.le_refl _⟩, ⟨PB⟩⟩
 case round =>
  clear H'
  try clear c1
  obtain ⟨x3_1, rfl, HA, HK1, HB⟩ := hrel
  cases gk with
  | zero => exact absurd HA.out (by simp [spec_AreEntries.l0])
  | succ k1 =>
   have H := HA.out; clear HA; simp only [spec_AreEntries.l0] at H
   by_cases c2 : x3_1 < (l0.length : Int)
   ·rw [if_pos c2] at H; have c2b0 : decide (x3_1 < (l0.length : Int)) = true := decide_eq_true c2; clear c2
    by_cases c3 : 0 ≤ x3_1
    ·rw [if_pos c3] at H; have c3b0 : decide (0 ≤ x3_1) = true := decide_eq_true c3; clear c3; replace H := Option.bind_eq_some_iff.mp H; obtain ⟨t258, A40, H⟩ := H; (try dsimp only at H); have A4 := ak A40; clear A40
     by_cases c5 : t258 = true
     ·subst c5; rw [if_pos rfl] at H; replace H := Option.bind_eq_some_iff.mp H; obtain ⟨t259, A60, H⟩ := H; (try dsimp only at H); have A6 := ak A60; clear A60
      by_cases c7 : t259 = true
      ·subst c7; rw [if_pos rfl] at H
       by_cases c8 : ((rd_T107 l0 x3_1).f0) = 1
       ·rw [if_pos c8] at H; have c8b0 : (((rd_T107 l0 x3_1).f0) == 1) = true := beq_iff_eq.mpr c8; have c8b1 : (((rd_T107 l0 x3_1).f0) != 1) = false := bne_eq_false_iff_eq.mpr c8; clear c8; replace H := Option.bind_eq_some_iff.mp H; obtain ⟨t260, A90, H⟩ := H; (try dsimp only at H); have A9 := ak A90; clear A90
        by_cases c10 : t260 = true
        ·subst c10; rw [if_pos rfl] at H; have H' := ak H; clear H; have p256 : 0 ≤ (x3_1 : Int) := od; have q256 : x3_1 < (l0.length : Int) := od; obtain ⟨ad256, e256, hx256_0, hx256_1, hx256_2, hx256_3, hx256_4⟩ := at_T107 HR0.out x3_1 p256 q256; cases e256; replace hx256_0 := hx_ HB hx256_0; replace hx256_1 := hx_ HB hx256_1; replace hx256_2 := hx_ HB hx256_2; replace hx256_3 := hx_ HB hx256_3; replace hx256_4 := hx_ HB hx256_4; replace p256 := eq_true p256; replace q256 := eq_true q256; go_wp2_with (first | ((with_reducible refine gate_dst (N := 4) rfl ?_); refine bx_ (N := 4) #[.int .i64 0, .int .i64 0, .int .i64 0, .int .i64 0, .int .i64 0] 107 ?_; intro gb257 hg w11 hbox hb; have BK257 := ak hbox; have GW257 := gy hg HB; have GE257 := gy hg HB; replace HB := bs HB hb; clear hb hbox hg; obtain ⟨hcz12_0, hcz12_1, hcz12_2, _, _, hfz12_0, hfz12_1, hfz12_2, _, _⟩ := bc5 BK257) | ((with_reducible refine gate_callee (f := 140) rfl ?_); refine goesL_ (some 17) rfl rfl Try.func140 KR rfl #[.int .i64 ((rd_T107 l0 x3_1).f0)] rfl AR ?_; (with_reducible refine (spec_Asks.calls ((rd_T107 l0 x3_1).f0) true _ A4.out).mono ?_); rintro e w' ⟨rfl, ⟨nd, rfl⟩⟩; refine ⟨_, rfl, ?_⟩) | (go_at_call 82; (with_reducible refine (spec_l1In.calls ((rd_T107 l0 x3_1).f2) 0 999 true _ A6.out).mono ?_); rintro e w' ⟨rfl, ⟨nd, rfl⟩⟩) | (go_at_call 137; (with_reducible refine (spec_IsAddress.calls ((rd_T107 l0 x3_1).f1.f0) ((rd_T107 l0 x3_1).f1.f1) ((rd_T107 l0 x3_1).f1.f2) true _ A9.out).mono ?_); rintro e w13 ⟨rfl, hb⟩; replace BK257 := kp (cs' := #[.int .i64 ((rd_T107 l0 x3_1).f0), .int .i64 ((rd_T107 l0 x3_1).f1.f0), .int .i64 ((rd_T107 l0 x3_1).f1.f1), .int .i64 ((rd_T107 l0 x3_1).f1.f2), .int .i64 ((rd_T107 l0 x3_1).f2)]) BK257 hb; replace HB := bs HB hb; clear hb; obtain ⟨_, _, _, _, _, _, _, _, _, _⟩ := bc5 BK257))
         go_roundg k1
         case measure => have := HK1.out; omega
         case rel => exact ⟨(wrap64 (x3_1 + 1)), (by first | rfl | (simp; done) | (simp [*]; done)), H', ⟨by have := HK1.out; omega⟩, ⟨PB⟩⟩
        ·replace c10 := Bool.eq_false_iff.mpr c10; subst c10; rw [if_neg (show ¬ (false = true) by decide)] at H; obtain rfl := Option.some.inj H; have p256 : 0 ≤ (x3_1 : Int) := od; have q256 : x3_1 < (l0.length : Int) := od; obtain ⟨ad256, e256, hx256_0, hx256_1, hx256_2, hx256_3, hx256_4⟩ := at_T107 HR0.out x3_1 p256 q256; cases e256; replace hx256_0 := hx_ HB hx256_0; replace hx256_1 := hx_ HB hx256_1; replace hx256_2 := hx_ HB hx256_2; replace hx256_3 := hx_ HB hx256_3; replace hx256_4 := hx_ HB hx256_4; replace p256 := eq_true p256; replace q256 := eq_true q256; go_wp2_with (first | ((with_reducible refine gate_dst (N := 4) rfl ?_); refine bx_ (N := 4) #[.int .i64 0, .int .i64 0, .int .i64 0, .int .i64 0, .int .i64 0] 107 ?_; intro gb257 hg w15 hbox hb; have BK257 := ak hbox; have GW257 := gy hg HB; have GE257 := gy hg HB; replace HB := bs HB hb; clear hb hbox hg; obtain ⟨_, _, _, _, _, _, _, _, _, _⟩ := bc5 BK257) | ((with_reducible refine gate_callee (f := 140) rfl ?_); refine goesL_ (some 17) rfl rfl Try.func140 KR rfl #[.int .i64 ((rd_T107 l0 x3_1).f0)] rfl AR ?_; (with_reducible refine (spec_Asks.calls ((rd_T107 l0 x3_1).f0) true _ A4.out).mono ?_); rintro e w' ⟨rfl, ⟨nd, rfl⟩⟩; refine ⟨_, rfl, ?_⟩) | (go_at_call 82; (with_reducible refine (spec_l1In.calls ((rd_T107 l0 x3_1).f2) 0 999 true _ A6.out).mono ?_); rintro e w' ⟨rfl, ⟨nd, rfl⟩⟩) | (go_at_call 137; (with_reducible refine (spec_IsAddress.calls ((rd_T107 l0 x3_1).f1.f0) ((rd_T107 l0 x3_1).f1.f1) ((rd_T107 l0 x3_1).f1.f2) false _ A9.out).mono ?_); rintro e w17 ⟨rfl, hb⟩; replace BK257 := kp (cs' := #[.int .i64 ((rd_T107 l0 x3_1).f0), .int .i64 ((rd_T107 l0 x3_1).f1.f0), .int .i64 ((rd_T107 l0 x3_1).f1.f1), .int .i64 ((rd_T107 l0 x3_1).f1.f2), .int .i64 ((rd_T107 l0 x3_1).f2)]) BK257 hb; replace HB := bs HB hb; clear hb))
         go_ret
         exact ⟨RT, PB⟩
       ·rw [if_neg c8] at H; have c8b0 : (((rd_T107 l0 x3_1).f0) == 1) = false := beq_eq_false_iff_ne.mpr c8; have c8b1 : (((rd_T107 l0 x3_1).f0) != 1) = true := bne_iff_ne.mpr c8
        by_cases c18 : (!(((rd_T107 l0 x3_1).f1.f0) == 0) || (!(((rd_T107 l0 x3_1).f1.f1) == 0) || (!(((rd_T107 l0 x3_1).f1.f2) == 0)))) = true
        ·rw [if_pos c18] at H; have c18b0 : (!(((rd_T107 l0 x3_1).f1.f0) == 0) || (!(((rd_T107 l0 x3_1).f1.f1) == 0) || (!(((rd_T107 l0 x3_1).f1.f2) == 0)))) = true := c18; clear c18; obtain rfl := Option.some.inj H; have p256 : 0 ≤ (x3_1 : Int) := od; have q256 : x3_1 < (l0.length : Int) := od; obtain ⟨ad256, e256, hx256_0, hx256_1, hx256_2, hx256_3, hx256_4⟩ := at_T107 HR0.out x3_1 p256 q256; cases e256; replace hx256_0 := hx_ HB hx256_0; replace hx256_1 := hx_ HB hx256_1; replace hx256_2 := hx_ HB hx256_2; replace hx256_3 := hx_ HB hx256_3; replace hx256_4 := hx_ HB hx256_4; replace p256 := eq_true p256; replace q256 := eq_true q256; go_wp2_with (first | ((with_reducible refine gate_dst (N := 4) rfl ?_); refine bx_ (N := 4) #[.int .i64 0, .int .i64 0, .int .i64 0, .int .i64 0, .int .i64 0] 107 ?_; intro gb257 hg w19 hbox hb; have BK257 := ak hbox; have GW257 := gy hg HB; have GE257 := gy hg HB; replace HB := bs HB hb; clear hb hbox hg; obtain ⟨_, _, _, _, _, _, _, _, _, _⟩ := bc5 BK257) | ((with_reducible refine gate_callee (f := 140) rfl ?_); refine goesL_ (some 17) rfl rfl Try.func140 KR rfl #[.int .i64 ((rd_T107 l0 x3_1).f0)] rfl AR ?_; (with_reducible refine (spec_Asks.calls ((rd_T107 l0 x3_1).f0) true _ A4.out).mono ?_); rintro e w' ⟨rfl, ⟨nd, rfl⟩⟩; refine ⟨_, rfl, ?_⟩) | (go_at_call 82; (with_reducible refine (spec_l1In.calls ((rd_T107 l0 x3_1).f2) 0 999 true _ A6.out).mono ?_); rintro e w' ⟨rfl, ⟨nd, rfl⟩⟩))
         go_ret
         exact ⟨RT, PB⟩
        ·rw [if_neg c18] at H
         have c18b0 : (!(((rd_T107 l0 x3_1).f1.f0) == 0) || (!(((rd_T107 l0 x3_1).f1.f1) == 0) || (!(((rd_T107 l0 x3_1).f1.f2) == 0)))) = false := by simpa using c18
         clear c18; have H' := ak H; clear H; have p256 : 0 ≤ (x3_1 : Int) := od; have q256 : x3_1 < (l0.length : Int) := od; obtain ⟨ad256, e256, hx256_0, hx256_1, hx256_2, hx256_3, hx256_4⟩ := at_T107 HR0.out x3_1 p256 q256; cases e256; replace hx256_0 := hx_ HB hx256_0; replace hx256_1 := hx_ HB hx256_1; replace hx256_2 := hx_ HB hx256_2; replace hx256_3 := hx_ HB hx256_3; replace hx256_4 := hx_ HB hx256_4; replace p256 := eq_true p256; replace q256 := eq_true q256; go_wp2_with (first | ((with_reducible refine gate_dst (N := 4) rfl ?_); refine bx_ (N := 4) #[.int .i64 0, .int .i64 0, .int .i64 0, .int .i64 0, .int .i64 0] 107 ?_; intro gb257 hg w21 hbox hb; have BK257 := ak hbox; have GW257 := gy hg HB; have GE257 := gy hg HB; replace HB := bs HB hb; clear hb hbox hg; obtain ⟨_, _, _, _, _, _, _, _, _, _⟩ := bc5 BK257) | ((with_reducible refine gate_callee (f := 140) rfl ?_); refine goesL_ (some 17) rfl rfl Try.func140 KR rfl #[.int .i64 ((rd_T107 l0 x3_1).f0)] rfl AR ?_; (with_reducible refine (spec_Asks.calls ((rd_T107 l0 x3_1).f0) true _ A4.out).mono ?_); rintro e w' ⟨rfl, ⟨nd, rfl⟩⟩; refine ⟨_, rfl, ?_⟩) | (go_at_call 82; (with_reducible refine (spec_l1In.calls ((rd_T107 l0 x3_1).f2) 0 999 true _ A6.out).mono ?_); rintro e w' ⟨rfl, ⟨nd, rfl⟩⟩))
         go_roundg k1
         case measure => have := HK1.out; omega
         case rel => exact ⟨(wrap64 (x3_1 + 1)), (by first | rfl | (simp; done) | (simp [*]; done)), H', ⟨by have := HK1.out; omega⟩, ⟨PB⟩⟩
      ·replace c7 := Bool.eq_false_iff.mpr c7; subst c7; rw [if_neg (show ¬ (false = true) by decide)] at H; obtain rfl := Option.some.inj H; have p256 : 0 ≤ (x3_1 : Int) := od; have q256 : x3_1 < (l0.length : Int) := od; obtain ⟨ad256, e256, hx256_0, hx256_1, hx256_2, hx256_3, hx256_4⟩ := at_T107 HR0.out x3_1 p256 q256; cases e256; replace hx256_0 := hx_ HB hx256_0; replace hx256_1 := hx_ HB hx256_1; replace hx256_2 := hx_ HB hx256_2; replace hx256_3 := hx_ HB hx256_3; replace hx256_4 := hx_ HB hx256_4; replace p256 := eq_true p256; replace q256 := eq_true q256; go_wp2_with (first | ((with_reducible refine gate_dst (N := 4) rfl ?_); refine bx_ (N := 4) #[.int .i64 0, .int .i64 0, .int .i64 0, .int .i64 0, .int .i64 0] 107 ?_; intro gb257 hg w23 hbox hb; have BK257 := ak hbox; have GW257 := gy hg HB; have GE257 := gy hg HB; replace HB := bs HB hb; clear hb hbox hg; obtain ⟨_, _, _, _, _, _, _, _, _, _⟩ := bc5 BK257) | ((with_reducible refine gate_callee (f := 140) rfl ?_); refine goesL_ (some 17) rfl rfl Try.func140 KR rfl #[.int .i64 ((rd_T107 l0 x3_1).f0)] rfl AR ?_; (with_reducible refine (spec_Asks.calls ((rd_T107 l0 x3_1).f0) true _ A4.out).mono ?_); rintro e w' ⟨rfl, ⟨nd, rfl⟩⟩; refine ⟨_, rfl, ?_⟩) | (go_at_call 82; (with_reducible refine (spec_l1In.calls ((rd_T107 l0 x3_1).f2) 0 999 false _ A6.out).mono ?_); rintro e w' ⟨rfl, ⟨nd, rfl⟩⟩))
       go_ret
       exact ⟨RT, PB⟩
     ·replace c5 := Bool.eq_false_iff.mpr c5; subst c5; rw [if_neg (show ¬ (false = true) by decide)] at H; obtain rfl := Option.some.inj H; have p256 : 0 ≤ (x3_1 : Int) := od; have q256 : x3_1 < (l0.length : Int) := od; obtain ⟨ad256, e256, hx256_0, hx256_1, hx256_2, hx256_3, hx256_4⟩ := at_T107 HR0.out x3_1 p256 q256; cases e256; replace hx256_0 := hx_ HB hx256_0; replace hx256_1 := hx_ HB hx256_1; replace hx256_2 := hx_ HB hx256_2; replace hx256_3 := hx_ HB hx256_3; replace hx256_4 := hx_ HB hx256_4; replace p256 := eq_true p256; replace q256 := eq_true q256; go_wp2_with (first | ((with_reducible refine gate_dst (N := 4) rfl ?_); refine bx_ (N := 4) #[.int .i64 0, .int .i64 0, .int .i64 0, .int .i64 0, .int .i64 0] 107 ?_; intro gb257 hg w25 hbox hb; have BK257 := ak hbox; have GW257 := gy hg HB; have GE257 := gy hg HB; replace HB := bs HB hb; clear hb hbox hg; obtain ⟨_, _, _, _, _, _, _, _, _, _⟩ := bc5 BK257) | ((with_reducible refine gate_callee (f := 140) rfl ?_); refine goesL_ (some 17) rfl rfl Try.func140 KR rfl #[.int .i64 ((rd_T107 l0 x3_1).f0)] rfl AR ?_; (with_reducible refine (spec_Asks.calls ((rd_T107 l0 x3_1).f0) false _ A4.out).mono ?_); rintro e w' ⟨rfl, ⟨nd, rfl⟩⟩; refine ⟨_, rfl, ?_⟩))
      go_ret
      exact ⟨RT, PB⟩
    ·rw [if_neg c3] at H; exact absurd H (by simp)
   ·rw [if_neg c2] at H; have c2b0 : decide (x3_1 < (l0.length : Int)) = false := decide_eq_false c2; clear c2; obtain rfl := Option.some.inj H; go_wp2
    go_ret
    exact ⟨RT, PB⟩

end Go.Proofs.Ytmhonflpbokkeaa.MFnExactReplay
