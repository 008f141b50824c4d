-- Written by a program of this session out of the translation's own print. Not trusted: Lean checks it.
import Derived.Test.YtmhonflpbokkeaaRun
import Derived.Test.YtmhonflpbokkeaaShr2
import Derived.Test.YtmhonflpbokkeaaMFnExactReplayx0
import Derived.Test.YtmhonflpbokkeaaMFnExactReplayx5
import Derived.Test.YtmhonflpbokkeaaMFnExactReplayx9
namespace Go.Proofs.Ytmhonflpbokkeaa.MFnExactReplay
open Go.RowKit Go.Proofs.YtmhonflpbokkeaaW.PrintWords Go.Proofs.YtmhonflpbokkeaaW.PrintLast Go.Proofs.YtmhonflpbokkeaaW.PrintMore
attribute [local go_sem] max2_int min2_int max_two min_two max_three min_three max_four min_four   -- for this text's walks alone
set_option linter.unusedVariables false
set_option maxHeartbeats 8000000
set_option maxRecDepth 100000
set_option linter.unusedSimpArgs false

/-! ### spec_Replay: function 21 -/
def spec_Replay.f (k : Nat) (l0 : List (S103)) (l1 : List (S107)) : Option (Int × Int × Int × List Int × List Int × List Int) := (spec_l14Run.f k l0 l1).bind fun bt314 => ((spec_l11Copy.f bt314.2.2.1 bt314.2.2.2.1 bt314.2.2.2.2.1 bt314.2.2.2.2.2.1).bind fun bt330 => (some (bt314.1, bt314.2.1, bt330.1, bt330.2.1, bt330.2.2.1, bt330.2.2.2)))
theorem spec_Replay.calls (k : Nat) (A0 : Option Addr) (c0 : Nat) (l0 : List (S103)) (A1 : Option Addr) (c1 : Nat) (l1 : List (S107)) (r1 : Int) (r2 : Int) (r3 : Int) (r4 : List Int) (r5 : List Int) (r6 : List Int) (w : World) (hr0 : Kd.C k103 w A0 l0.length l0) (hc0 : l0.length ≤ c0) (hr1 : Kd.C k107 w A1 l1.length l1) (hc1 : l1.length ≤ c1) (h : spec_Replay.f k l0 l1 = some (r1, r2, r3, r4, r5, r6)) :
  Calls Try.prog 21 #[.slice A0 l0.length c0, .slice A1 l1.length c1] w fun e w' => ∃ v3_ v4_ v5_ : Value, e = .returned (.agg #[.int .i64 r1, .int .i64 r2, .int .i64 r3, v3_, v4_, v5_]) ∧ Kd.R (Kd.int .i64) 3 w' w.heap.size (fun k_ => some k_ ≠ (v4_ : Value).ownBlock ∧ some k_ ≠ (v5_ : Value).ownBlock) v3_ r4 ∧ Kd.R (Kd.int .i64) 3 w' w.heap.size (fun k_ => some k_ ≠ (v3_ : Value).ownBlock ∧ some k_ ≠ (v5_ : Value).ownBlock) v4_ r5 ∧ Kd.R (Kd.int .i64) 3 w' w.heap.size (fun k_ => some k_ ≠ (v3_ : Value).ownBlock ∧ some k_ ≠ (v4_ : Value).ownBlock) v5_ r6 ∧ Below w.heap.size w w' := by
 have hu43 := Try.underlying43; have hu41 := Try.underlying41; have HR0 := ak hr0; have HC0 := ak hc0; clear hr0 hc0; have HR1 := ak hr1; have HC1 := ak hc1; clear hr1 hc1; have HB := ak (Below.refl w.heap.size w); have H := h; clear h; unfold spec_Replay.f at H; replace H := Option.bind_eq_some_iff.mp H; obtain ⟨⟨t314, t315, t316, t317, t320, t323, t326⟩, A30, H⟩ := H; (try dsimp only at H); have A3 := ak A30; clear A30; replace H := Option.bind_eq_some_iff.mp H; obtain ⟨⟨t330, t331, t334, t337⟩, A40, H⟩ := H; (try dsimp only at H); have A4 := ak A40; clear A40; simp only [Option.some.injEq, Prod.mk.injEq] at H; obtain ⟨rfl, rfl, rfl, rfl, rfl, rfl⟩ := H; go_enter Try.func21, Try.ntmps21; go_wp2_with (first | ((with_reducible refine gate_dst (N := 4) rfl ?_); refine bx_ (N := 4) #[.int .i64 0, .int .i64 0, .int .i64 0, .slice none 0 0, .slice none 0 0, .slice none 0 0] 43 ?_; intro gb313 hg w5 hbox hb; have BK313 := ak hbox; have GW313 := gy hg HB; have GE313 := gy hg HB; replace HB := bs HB hb; clear hb hbox hg) | ((with_reducible refine gate_callee (f := 59) rfl ?_); refine goesL_ (some 10) rfl rfl Try.func59 KR rfl #[.slice A0 l0.length c0, .slice A1 l1.length c1] rfl AR ?_; (with_reducible refine (spec_l14Run.calls k _ _ l0 _ _ l1 t314 t315 t316 t317 t320 t323 t326 _ ?side1 ?side2 ?side3 ?side4 A3.out).mono ?_); (case side1 => exact CR (Kd.C_below HR0.out HB.out)); (case side2 => exact HC0.out); (case side3 => exact CR (Kd.C_below HR1.out HB.out)); (case side4 => exact HC1.out); rintro e w6 ⟨v318, v321, v324, v327, rfl, ho0, ho1, ho2, ho3, hb⟩; refine ⟨_, rfl, ?_⟩; have HO319 := Rn0 ho0 HB; have HO322 := Rn0 ho1 HB; have HO325 := Rn0 ho2 HB; have HO328 := Rn0 (Kd.S_R ho3) HB; replace BK313 := kf BK313 hb; replace HB := bs HB hb; clear hb ho0 ho1 ho2 ho3) | ((with_reducible refine gate_dst (N := 5) rfl ?_); refine bx_ (N := 5) #[.int .i64 0, .int .i64 0, .int .i64 0, .slice none 0 0, .slice none 0 0, .slice none 0 0] 43 ?_; intro gb329 hg w7 hbox hb; replace HO319 := Rb HO319 hb; replace HO322 := Rb HO322 hb; replace HO325 := Rb HO325 hb; replace HO328 := Rb HO328 hb; have BK329 := ak hbox; have GW329 := gy hg HB; have GE329 := gy hg HB; replace HB := bs HB hb; have NB313_329 := gm hg BK313; have NB329_313 := gn hg BK313; replace BK313 := kf BK313 hb; clear hb hbox hg; have hnb8 := NB329_313.out; have hnc8 := NB313_329.out; obtain ⟨hcz9_0, hcz9_1, hcz9_2, hcz9_3, _, _, hfz9_0, hfz9_1, hfz9_2, hfz9_3, _, _⟩ := bc6 BK329; obtain ⟨Ao10, co10, rfl⟩ := Kd.R_slice HO319.out; obtain ⟨Ao11, co11, rfl⟩ := Kd.R_slice HO322.out; obtain ⟨Ao12, co12, rfl⟩ := Kd.R_slice HO325.out) | ((with_reducible refine gate_callee (f := 67) rfl ?_); refine goesL_ (some 15) rfl rfl Try.func67 KR rfl #[.agg #[.int .i64 t316, .slice Ao10 t317.length co10, .slice Ao11 t320.length co11, .slice Ao12 t323.length co12]] rfl AR ?_; (with_reducible refine (spec_l11Copy.calls t316 _ _ t317 _ _ t320 _ _ t323 t330 t331 t334 t337 _ ?side1 ?side2 ?side3 ?side4 ?side5 ?side6 A4.out).mono ?_); (case side1 => exact (Kd.R_reads' (Re1 HO319 BK329)).2.2); (case side2 => exact rl HO319); (case side3 => exact (Kd.R_reads' (Re1 HO322 BK329)).2.2); (case side4 => exact rl HO322); (case side5 => exact (Kd.R_reads' (Re1 HO325 BK329)).2.2); (case side6 => exact rl HO325); rintro e w13 ⟨v332, v335, v338, rfl, ho0, ho1, ho2, hb⟩; refine ⟨_, rfl, ?_⟩; have HO333 := ak (Kd.R_lower (Kd.R_new' (Kd.R_new' (Kd.R_new' (Kd.R_new' ho0 (Kd.R_lt (Re1 HO319 BK329))) (Kd.R_lt (Re1 HO322 BK329))) (Kd.R_lt (Re1 HO325 BK329))) (Kd.R_lt (Re1 HO328 BK329))) (below_size PB)); have HO336 := ak (Kd.R_lower (Kd.R_new' (Kd.R_new' (Kd.R_new' (Kd.R_new' ho1 (Kd.R_lt (Re1 HO319 BK329))) (Kd.R_lt (Re1 HO322 BK329))) (Kd.R_lt (Re1 HO325 BK329))) (Kd.R_lt (Re1 HO328 BK329))) (below_size PB)); have HO339 := ak (Kd.R_lower (Kd.R_new' (Kd.R_new' (Kd.R_new' (Kd.R_new' ho2 (Kd.R_lt (Re1 HO319 BK329))) (Kd.R_lt (Re1 HO322 BK329))) (Kd.R_lt (Re1 HO325 BK329))) (Kd.R_lt (Re1 HO328 BK329))) (below_size PB)); replace HO319 := ak (Kd.R_mono (Kd.R_told (Kd.R_told (Kd.R_told (Kd.R_old (Re1 HO319 BK329) hb) (Kd.R_base ho0)) (Kd.R_base ho1)) (Kd.R_base ho2)) (fun _ h_ => h_.1)); replace HO322 := ak (Kd.R_mono (Kd.R_told (Kd.R_told (Kd.R_told (Kd.R_old (Re1 HO322 BK329) hb) (Kd.R_base ho0)) (Kd.R_base ho1)) (Kd.R_base ho2)) (fun _ h_ => h_.1)); replace HO325 := ak (Kd.R_mono (Kd.R_told (Kd.R_told (Kd.R_told (Kd.R_old (Re1 HO325 BK329) hb) (Kd.R_base ho0)) (Kd.R_base ho1)) (Kd.R_base ho2)) (fun _ h_ => h_.1)); replace HO328 := ak (Kd.R_mono (Kd.R_told (Kd.R_told (Kd.R_told (Kd.R_old (Re1 HO328 BK329) hb) (Kd.R_base ho0)) (Kd.R_base ho1)) (Kd.R_base ho2)) (fun _ h_ => h_.1)); replace BK313 := kf BK313 hb; replace BK329 := kp (cs' := #[.int .i64 t314, .int .i64 t315, .int .i64 t316, .slice Ao10 t317.length co10, .slice Ao11 t320.length co11, .slice Ao12 t323.length co12]) BK329 hb; replace HB := bs HB hb; clear hb ho0 ho1 ho2; obtain ⟨hcz14_0, hcz14_1, hcz14_2, hcz14_3, _, _, hfz14_0, hfz14_1, hfz14_2, hfz14_3, _, _⟩ := bc6 BK329; obtain ⟨Ao15, co15, rfl⟩ := Kd.R_slice HO333.out; obtain ⟨Ao16, co16, rfl⟩ := Kd.R_slice HO336.out; obtain ⟨Ao17, co17, rfl⟩ := Kd.R_slice HO339.out; obtain ⟨_, _, _, _, _, _, _, _, _, _, _, _⟩ := bc6 BK313)); refine bodyPost_ret (results_cell_row rfl _ _ gb313 43 #[.int .i64 t314, .int .i64 t315, .int .i64 t330, .slice Ao15 t331.length co15, .slice Ao16 t334.length co16, .slice Ao17 t337.length co17] (0, 0) _ rfl (PX BK313) Try.underlying43 rfl KR) rfl ?_; exact ⟨_, _, _, RT, RX (Rt (Rt HO333.out BK329) BK313) (fun _ hk => by first | exact ⟨hk.1.1.1.1.1.1.1, hk.1.1.1.1.1.1.2⟩ | simp_all), RX (Rt (Rt HO336.out BK329) BK313) (fun _ hk => by first | exact ⟨hk.1.1.1.1.1.1.1, hk.1.1.1.1.1.1.2⟩ | simp_all), RX (Rt (Rt HO339.out BK329) BK313) (fun _ hk => by first | exact ⟨hk.1.1.1.1.1.1.1, hk.1.1.1.1.1.1.2⟩ | simp_all), PB⟩

/-! ### impl_InRange: function 95 -/
def impl_InRange.f (a0 : Int) (a1 : Int) (a2 : Int) : Option (Bool) := if a1 ≤ a0 then (some (decide (a0 ≤ a2))) else (some false)
theorem impl_InRange.calls (a0 : Int) (a1 : Int) (a2 : Int) (r : Bool) (w : World) (h : impl_InRange.f a0 a1 a2 = some r) :
  Calls Try.prog 95 #[.int .i64 a0, .int .i64 a1, .int .i64 a2] w fun e w' => e = .returned (.bool r) ∧ Drawn0 w w' := by
 have H := h; clear h; unfold impl_InRange.f at H
 by_cases c4 : a1 ≤ a0
 ·rw [if_pos c4] at H; have c4b0 : decide (a1 ≤ a0) = true := decide_eq_true c4; clear c4; obtain rfl := Option.some.inj H; go_enter Try.func95, Try.ntmps95; go_wp2
  go_ret
  exact ⟨by first | rfl | (simp; done) | (simp [*]; done), by repeat (first | exact Drawn0.refl _ | apply Drawn0.step)⟩
 ·rw [if_neg c4] at H; have c4b0 : decide (a1 ≤ a0) = false := decide_eq_false c4; clear c4; obtain rfl := Option.some.inj H; go_enter Try.func95, Try.ntmps95; go_wp2
  go_ret
  exact ⟨by first | rfl | (simp; done) | (simp [*]; done), by repeat (first | exact Drawn0.refl _ | apply Drawn0.step)⟩

/-! ### impl_at: function 150 -/
def impl_at.f (a0 : Int) (a1 : Int) : Option (Bool) := if a0 ≥ 0 then (some (decide (a0 < a1))) else (some false)
theorem impl_at.calls (a0 : Int) (a1 : Int) (r : Bool) (w : World) (h : impl_at.f a0 a1 = some r) :
  Calls Try.prog 150 #[.int .i64 a0, .int .i64 a1] w fun e w' => e = .returned (.bool r) ∧ Drawn0 w w' := by
 have H := h; clear h; unfold impl_at.f at H
 by_cases c3 : a0 ≥ 0
 ·rw [if_pos c3] at H; have c3b0 : decide (0 ≤ a0) = true := decide_eq_true c3; clear c3; obtain rfl := Option.some.inj H; go_enter Try.func150, Try.ntmps150; go_wp2
  go_ret
  exact ⟨by first | rfl | (simp; done) | (simp [*]; done), by repeat (first | exact Drawn0.refl _ | apply Drawn0.step)⟩
 ·rw [if_neg c3] at H; have c3b0 : decide (0 ≤ a0) = false := decide_eq_false c3; clear c3; obtain rfl := Option.some.inj H; go_enter Try.func150, Try.ntmps150; go_wp2
  go_ret
  exact ⟨by first | rfl | (simp; done) | (simp [*]; done), by repeat (first | exact Drawn0.refl _ | apply Drawn0.step)⟩

/-! ### impl_isOp: function 117 -/
def impl_isOp.j0 : Nat → Int → Bool → Int → Int → Int → Int → Option (Bool)
  | 0, _, _, _, _, _, _ => none
  | k + 1, x8, x19, x341000, x341001, x341002, x341003 => if x19 = true then (if x341002 = 0 then (some (x341003 == 0)) else (some false)) else (if x8 = 5 then ((impl_at.f x341002 4).bind fun t344 => (if t344 = true then ((impl_at.f x341003 4).bind fun t345 => (some t345)) else (some false))) else (if x8 = 6 then ((impl_at.f x341002 4).bind fun t346 => (if t346 = true then (some (x341003 == 0)) else (some false))) else (if x8 = 7 then ((impl_InRange.f x341002 1 3).bind fun t347 => (if t347 = true then (some (x341003 == 0)) else (some false))) else (if x8 = 8 then ((impl_at.f x341002 3).bind fun t348 => (if t348 = true then (some (x341003 == 0)) else (some false))) else (if x8 = 9 then ((impl_at.f x341002 3).bind fun t349 => (if t349 = true then (some (x341003 == 0)) else (some false))) else (some false))))))
def impl_isOp.f (k : Nat) (a0_0 : Int) (a0_1 : Int) (a0_2 : Int) (a0_3 : Int) : Option (Bool) := (impl_at.f a0_1 4).bind fun t341 => (if t341 = true then (if a0_0 = 1 then ((impl_InRange.f a0_2 1 9).bind fun t342 => (if t342 = true then ((impl_InRange.f a0_3 0 99).bind fun t343 => (some t343)) else (some false))) else (if a0_0 = 2 then (impl_isOp.j0 k a0_0 (a0_0 == 2) a0_0 a0_1 a0_2 a0_3) else (if a0_0 = 3 then (impl_isOp.j0 k a0_0 (a0_0 == 3) a0_0 a0_1 a0_2 a0_3) else (impl_isOp.j0 k a0_0 (a0_0 == 4) a0_0 a0_1 a0_2 a0_3)))) else (some false))
theorem impl_isOp.calls (k : Nat) (a0_0 : Int) (a0_1 : Int) (a0_2 : Int) (a0_3 : Int) (r : Bool) (w : World) (h : impl_isOp.f k a0_0 a0_1 a0_2 a0_3 = some r) :
  Calls Try.prog 117 #[.agg #[.int .i64 a0_0, .int .i64 a0_1, .int .i64 a0_2, .int .i64 a0_3]] w fun e w' => e = .returned (.bool r) ∧ Below w.heap.size w w' := by
 have hu103 := Try.underlying103; have HB := ak (Below.refl w.heap.size w); have H := h; clear h; unfold impl_isOp.f at H; replace H := Option.bind_eq_some_iff.mp H; obtain ⟨t341, A20, H⟩ := H; (try dsimp only at H); have A2 := ak A20; clear A20
 by_cases c3 : t341 = true
 ·subst c3; rw [if_pos rfl] at H
  by_cases c4 : a0_0 = 1
  ·rw [if_pos c4] at H; have c4b0 : (a0_0 == 1) = true := beq_iff_eq.mpr c4; have c4b1 : (a0_0 != 1) = false := bne_eq_false_iff_eq.mpr c4; clear c4; replace H := Option.bind_eq_some_iff.mp H; obtain ⟨t342, A50, H⟩ := H; (try dsimp only at H); have A5 := ak A50; clear A50
   by_cases c6 : t342 = true
   ·subst c6; rw [if_pos rfl] at H; replace H := Option.bind_eq_some_iff.mp H; obtain ⟨t343, A70, H⟩ := H; (try dsimp only at H); have A7 := ak A70; clear A70; obtain rfl := Option.some.inj H; go_enter Try.func117, Try.ntmps117; go_wp2_with (first | ((with_reducible refine gate_dst (N := 1) rfl ?_); refine bx_ (N := 1) #[.int .i64 a0_0, .int .i64 a0_1, .int .i64 a0_2, .int .i64 a0_3] 103 ?_; intro gb340 hg w8 hbox hb; have BK340 := ak hbox; have GW340 := gy hg HB; have GE340 := gy hg HB; replace HB := bs HB hb; clear hb hbox hg; obtain ⟨hcz9_0, hcz9_1, hcz9_2, hcz9_3, hfz9_0, hfz9_1, hfz9_2, hfz9_3⟩ := bc4 BK340) | ((with_reducible refine gate_callee (f := 150) rfl ?_); refine goesL_ (some 5) rfl rfl Try.func150 KR rfl #[.int .i64 a0_1, .int .i64 4] rfl AR ?_; (with_reducible refine (impl_at.calls a0_1 4 true _ A2.out).mono ?_); rintro e w' ⟨rfl, ⟨nd, rfl⟩⟩; refine ⟨_, rfl, ?_⟩) | ((with_reducible refine gate_callee (f := 95) rfl ?_); refine goesL_ (some 13) rfl rfl Try.func95 KR rfl #[.int .i64 a0_2, .int .i64 1, .int .i64 9] rfl AR ?_; (with_reducible refine (impl_InRange.calls a0_2 1 9 true _ A5.out).mono ?_); rintro e w' ⟨rfl, ⟨nd, rfl⟩⟩; refine ⟨_, rfl, ?_⟩) | (go_at_call 95; (with_reducible refine (impl_InRange.calls a0_3 0 99 t343 _ A7.out).mono ?_); rintro e w' ⟨rfl, ⟨nd, rfl⟩⟩))
    go_ret
    exact ⟨RT, PB⟩
   ·replace c6 := Bool.eq_false_iff.mpr c6; subst c6; rw [if_neg (show ¬ (false = true) by decide)] at H; obtain rfl := Option.some.inj H; go_enter Try.func117, Try.ntmps117; go_wp2_with (first | ((with_reducible refine gate_dst (N := 1) rfl ?_); refine bx_ (N := 1) #[.int .i64 a0_0, .int .i64 a0_1, .int .i64 a0_2, .int .i64 a0_3] 103 ?_; intro gb340 hg w10 hbox hb; have BK340 := ak hbox; have GW340 := gy hg HB; have GE340 := gy hg HB; replace HB := bs HB hb; clear hb hbox hg; obtain ⟨hcz11_0, hcz11_1, hcz11_2, hcz11_3, hfz11_0, hfz11_1, hfz11_2, hfz11_3⟩ := bc4 BK340) | ((with_reducible refine gate_callee (f := 150) rfl ?_); refine goesL_ (some 5) rfl rfl Try.func150 KR rfl #[.int .i64 a0_1, .int .i64 4] rfl AR ?_; (with_reducible refine (impl_at.calls a0_1 4 true _ A2.out).mono ?_); rintro e w' ⟨rfl, ⟨nd, rfl⟩⟩; refine ⟨_, rfl, ?_⟩) | ((with_reducible refine gate_callee (f := 95) rfl ?_); refine goesL_ (some 13) rfl rfl Try.func95 KR rfl #[.int .i64 a0_2, .int .i64 1, .int .i64 9] rfl AR ?_; (with_reducible refine (impl_InRange.calls a0_2 1 9 false _ A5.out).mono ?_); rintro e w' ⟨rfl, ⟨nd, rfl⟩⟩; refine ⟨_, rfl, ?_⟩))
    go_ret
    exact ⟨RT, PB⟩
  ·rw [if_neg c4] at H; have c4b0 : (a0_0 == 1) = false := beq_eq_false_iff_ne.mpr c4; have c4b1 : (a0_0 != 1) = true := bne_iff_ne.mpr c4; have HC12 := ak H; clear H; go_enter Try.func117, Try.ntmps117
   go_upto_if 19 with (first | ((with_reducible refine gate_dst (N := 1) rfl ?_); refine bx_ (N := 1) #[.int .i64 a0_0, .int .i64 a0_1, .int .i64 a0_2, .int .i64 a0_3] 103 ?_; intro gb340 hg w13 hbox hb; have BK340 := ak hbox; have GW340 := gy hg HB; have GE340 := gy hg HB; replace HB := bs HB hb; clear hb hbox hg; obtain ⟨hcz14_0, hcz14_1, hcz14_2, hcz14_3, hfz14_0, hfz14_1, hfz14_2, hfz14_3⟩ := bc4 BK340) | ((with_reducible refine gate_callee (f := 150) rfl ?_); refine goesL_ (some 5) rfl rfl Try.func150 KR rfl #[.int .i64 a0_1, .int .i64 4] rfl AR ?_; (with_reducible refine (impl_at.calls a0_1 4 true _ A2.out).mono ?_); rintro e w' ⟨rfl, ⟨nd, rfl⟩⟩; refine ⟨_, rfl, ?_⟩))
   (try simp only [Act.put, List.setIfInBounds_toArray, List.set_cons_zero, List.set_cons_succ])
   go_cut [19] (fun v19 wc => ∃ (kq : Nat) (x19_11 : Bool), v19 = .bool x19_11 ∧ Aside0 (impl_isOp.j0 kq a0_0 x19_11 a0_0 a0_1 a0_2 a0_3 = some r) ∧ Aside0 (kq ≤ k) ∧ Aside0 (wc.heap[gb340]? = some (.cells #[.int .i64 a0_0, .int .i64 a0_1, .int .i64 a0_2, .int .i64 a0_3] 103 (0, 0))) ∧ Aside0 (Below w.heap.size w wc))
   case first =>
    have H := HC12.out; clear HC12
    by_cases c15 : a0_0 = 2
    ·rw [if_pos c15] at H; have c15b0 : (a0_0 == 2) = true := beq_iff_eq.mpr c15; have c15b1 : (a0_0 != 2) = false := bne_eq_false_iff_eq.mpr c15; clear c15; (first | rw [c15b0] | (simp only [i64_w, i32_w]; rw [c15b0]) | skip); have H' := ak H; clear H; go_wp2
     go_meet
     case rel => exact ⟨_, ((a0_0 == 2)), (by first | rfl | (simp; done) | (simp [*]; done)), H', ⟨by first | omega | exact Nat.le_refl _⟩, ⟨PK BK340⟩, ⟨PB⟩⟩
    ·rw [if_neg c15] at H; have c15b0 : (a0_0 == 2) = false := beq_eq_false_iff_ne.mpr c15; have c15b1 : (a0_0 != 2) = true := bne_iff_ne.mpr c15; (first | rw [c15b0] | (simp only [i64_w, i32_w]; rw [c15b0]) | skip)
     by_cases c16 : a0_0 = 3
     ·rw [if_pos c16] at H; have c16b0 : (a0_0 == 3) = true := beq_iff_eq.mpr c16; have c16b1 : (a0_0 != 3) = false := bne_eq_false_iff_eq.mpr c16; clear c16; have H' := ak H; clear H; go_wp2
      go_meet
      case rel => exact ⟨_, ((a0_0 == 3)), (by first | rfl | (simp; done) | (simp [*]; done)), H', ⟨by first | omega | exact Nat.le_refl _⟩, ⟨PK BK340⟩, ⟨PB⟩⟩
     ·rw [if_neg c16] at H; have c16b0 : (a0_0 == 3) = false := beq_eq_false_iff_ne.mpr c16; have c16b1 : (a0_0 != 3) = true := bne_iff_ne.mpr c16; have H' := ak H; clear H; go_wp2
      go_meet
      case rel => exact ⟨_, ((a0_0 == 4)), (by first | rfl | (simp; done) | (simp [*]; done)), H', ⟨by first | omega | exact Nat.le_refl _⟩, ⟨PK BK340⟩, ⟨PB⟩⟩
   case rest =>
    clear HC12; (try clear c1); (try clear p2); (try clear c3); (try clear c4); (try clear c4b0); (try clear c4b1); (try clear c6); (try clear c9); (try clear c11); (try clear c15); (try clear c15b0); (try clear c15b1); (try clear c16); (try clear c16b0); (try clear c16b1); (try clear hcz11_0); (try clear hcz11_1); (try clear hcz11_2); (try clear hcz11_3); (try clear hcz14_0); (try clear hcz14_1); (try clear hcz14_2); (try clear hcz14_3); (try clear hcz9_0); (try clear hcz9_1); (try clear hcz9_2); (try clear hcz9_3); (try clear hfz11_0); (try clear hfz11_1); (try clear hfz11_2); (try clear hfz11_3); (try clear hfz14_0); (try clear hfz14_1); (try clear hfz14_2); (try clear hfz14_3); (try clear hfz9_0); (try clear hfz9_1); (try clear hfz9_2); (try clear hfz9_3); obtain ⟨kq, x19_11, rfl, HA, HJ11, BK340, HB⟩ := hcut
    cases kq with
    | zero => exact absurd HA.out (by simp [impl_isOp.j0])
    | succ kj11 =>
     have H := HA.out; clear HA; simp only [impl_isOp.j0] at H
     by_cases c17 : x19_11 = true
     ·subst c17; rw [if_pos rfl] at H
      by_cases c18 : a0_2 = 0
      ·rw [if_pos c18] at H; have c18b0 : (a0_2 == 0) = true := beq_iff_eq.mpr c18; have c18b1 : (a0_2 != 0) = false := bne_eq_false_iff_eq.mpr c18; clear c18; obtain rfl := Option.some.inj H; obtain ⟨_, _, _, _, _, _, _, _⟩ := bc4 BK340; go_wp2
       go_ret
       exact ⟨RT, PB⟩
      ·rw [if_neg c18] at H; have c18b0 : (a0_2 == 0) = false := beq_eq_false_iff_ne.mpr c18; have c18b1 : (a0_2 != 0) = true := bne_iff_ne.mpr c18; obtain rfl := Option.some.inj H; obtain ⟨_, _, _, _, _, _, _, _⟩ := bc4 BK340; go_wp2
       go_ret
       exact ⟨RT, PB⟩
     ·replace c17 := Bool.eq_false_iff.mpr c17; subst c17; rw [if_neg (show ¬ (false = true) by decide)] at H
      by_cases c21 : a0_0 = 5
      ·rw [if_pos c21] at H; have c21b0 : (a0_0 == 5) = true := beq_iff_eq.mpr c21; have c21b1 : (a0_0 != 5) = false := bne_eq_false_iff_eq.mpr c21; clear c21; replace H := Option.bind_eq_some_iff.mp H; obtain ⟨t344, A220, H⟩ := H; (try dsimp only at H); have A22 := ak A220; clear A220
       by_cases c23 : t344 = true
       ·subst c23; rw [if_pos rfl] at H; replace H := Option.bind_eq_some_iff.mp H; obtain ⟨t345, A240, H⟩ := H; (try dsimp only at H); have A24 := ak A240; clear A240; obtain rfl := Option.some.inj H; obtain ⟨_, _, _, _, _, _, _, _⟩ := bc4 BK340; go_wp2_with (first | ((with_reducible refine gate_callee (f := 150) rfl ?_); refine goesL_ (some 35) rfl rfl Try.func150 KR rfl #[.int .i64 a0_2, .int .i64 4] rfl AR ?_; (with_reducible refine (impl_at.calls a0_2 4 true _ A22.out).mono ?_); rintro e w' ⟨rfl, ⟨nd, rfl⟩⟩; refine ⟨_, rfl, ?_⟩) | (go_at_call 150; (with_reducible refine (impl_at.calls a0_3 4 t345 _ A24.out).mono ?_); rintro e w' ⟨rfl, ⟨nd, rfl⟩⟩))
        go_ret
        exact ⟨RT, PB⟩
       ·replace c23 := Bool.eq_false_iff.mpr c23; subst c23; rw [if_neg (show ¬ (false = true) by decide)] at H; obtain rfl := Option.some.inj H; obtain ⟨_, _, _, _, _, _, _, _⟩ := bc4 BK340; go_wp2_with (first | ((with_reducible refine gate_callee (f := 150) rfl ?_); refine goesL_ (some 35) rfl rfl Try.func150 KR rfl #[.int .i64 a0_2, .int .i64 4] rfl AR ?_; (with_reducible refine (impl_at.calls a0_2 4 false _ A22.out).mono ?_); rintro e w' ⟨rfl, ⟨nd, rfl⟩⟩; refine ⟨_, rfl, ?_⟩))
        go_ret
        exact ⟨RT, PB⟩
      ·rw [if_neg c21] at H; have c21b0 : (a0_0 == 5) = false := beq_eq_false_iff_ne.mpr c21; have c21b1 : (a0_0 != 5) = true := bne_iff_ne.mpr c21
       by_cases c27 : a0_0 = 6
       ·rw [if_pos c27] at H; have c27b0 : (a0_0 == 6) = true := beq_iff_eq.mpr c27; have c27b1 : (a0_0 != 6) = false := bne_eq_false_iff_eq.mpr c27; clear c27; replace H := Option.bind_eq_some_iff.mp H; obtain ⟨t346, A280, H⟩ := H; (try dsimp only at H); have A28 := ak A280; clear A280
        by_cases c29 : t346 = true
        ·subst c29; rw [if_pos rfl] at H; obtain rfl := Option.some.inj H; obtain ⟨_, _, _, _, _, _, _, _⟩ := bc4 BK340; go_wp2_with (first | ((with_reducible refine gate_callee (f := 150) rfl ?_); refine goesL_ (some 45) rfl rfl Try.func150 KR rfl #[.int .i64 a0_2, .int .i64 4] rfl AR ?_; (with_reducible refine (impl_at.calls a0_2 4 true _ A28.out).mono ?_); rintro e w' ⟨rfl, ⟨nd, rfl⟩⟩; refine ⟨_, rfl, ?_⟩))
         go_ret
         exact ⟨RT, PB⟩
        ·replace c29 := Bool.eq_false_iff.mpr c29; subst c29; rw [if_neg (show ¬ (false = true) by decide)] at H; obtain rfl := Option.some.inj H; obtain ⟨_, _, _, _, _, _, _, _⟩ := bc4 BK340; go_wp2_with (first | ((with_reducible refine gate_callee (f := 150) rfl ?_); refine goesL_ (some 45) rfl rfl Try.func150 KR rfl #[.int .i64 a0_2, .int .i64 4] rfl AR ?_; (with_reducible refine (impl_at.calls a0_2 4 false _ A28.out).mono ?_); rintro e w' ⟨rfl, ⟨nd, rfl⟩⟩; refine ⟨_, rfl, ?_⟩))
         go_ret
         exact ⟨RT, PB⟩
       ·rw [if_neg c27] at H; have c27b0 : (a0_0 == 6) = false := beq_eq_false_iff_ne.mpr c27; have c27b1 : (a0_0 != 6) = true := bne_iff_ne.mpr c27
        by_cases c32 : a0_0 = 7
        ·rw [if_pos c32] at H; have c32b0 : (a0_0 == 7) = true := beq_iff_eq.mpr c32; have c32b1 : (a0_0 != 7) = false := bne_eq_false_iff_eq.mpr c32; clear c32; replace H := Option.bind_eq_some_iff.mp H; obtain ⟨t347, A330, H⟩ := H; (try dsimp only at H); have A33 := ak A330; clear A330
         by_cases c34 : t347 = true
         ·subst c34; rw [if_pos rfl] at H; obtain rfl := Option.some.inj H; obtain ⟨_, _, _, _, _, _, _, _⟩ := bc4 BK340; go_wp2_with (first | ((with_reducible refine gate_callee (f := 95) rfl ?_); refine goesL_ (some 55) rfl rfl Try.func95 KR rfl #[.int .i64 a0_2, .int .i64 1, .int .i64 3] rfl AR ?_; (with_reducible refine (impl_InRange.calls a0_2 1 3 true _ A33.out).mono ?_); rintro e w' ⟨rfl, ⟨nd, rfl⟩⟩; refine ⟨_, rfl, ?_⟩))
          go_ret
          exact ⟨RT, PB⟩
         ·replace c34 := Bool.eq_false_iff.mpr c34; subst c34; rw [if_neg (show ¬ (false = true) by decide)] at H; obtain rfl := Option.some.inj H; obtain ⟨_, _, _, _, _, _, _, _⟩ := bc4 BK340; go_wp2_with (first | ((with_reducible refine gate_callee (f := 95) rfl ?_); refine goesL_ (some 55) rfl rfl Try.func95 KR rfl #[.int .i64 a0_2, .int .i64 1, .int .i64 3] rfl AR ?_; (with_reducible refine (impl_InRange.calls a0_2 1 3 false _ A33.out).mono ?_); rintro e w' ⟨rfl, ⟨nd, rfl⟩⟩; refine ⟨_, rfl, ?_⟩))
          go_ret
          exact ⟨RT, PB⟩
        ·rw [if_neg c32] at H; have c32b0 : (a0_0 == 7) = false := beq_eq_false_iff_ne.mpr c32; have c32b1 : (a0_0 != 7) = true := bne_iff_ne.mpr c32
         by_cases c37 : a0_0 = 8
         ·rw [if_pos c37] at H; have c37b0 : (a0_0 == 8) = true := beq_iff_eq.mpr c37; have c37b1 : (a0_0 != 8) = false := bne_eq_false_iff_eq.mpr c37; clear c37; replace H := Option.bind_eq_some_iff.mp H; obtain ⟨t348, A380, H⟩ := H; (try dsimp only at H); have A38 := ak A380; clear A380
          by_cases c39 : t348 = true
          ·subst c39; rw [if_pos rfl] at H; obtain rfl := Option.some.inj H; obtain ⟨_, _, _, _, _, _, _, _⟩ := bc4 BK340; go_wp2_with (first | ((with_reducible refine gate_callee (f := 150) rfl ?_); refine goesL_ (some 66) rfl rfl Try.func150 KR rfl #[.int .i64 a0_2, .int .i64 3] rfl AR ?_; (with_reducible refine (impl_at.calls a0_2 3 true _ A38.out).mono ?_); rintro e w' ⟨rfl, ⟨nd, rfl⟩⟩; refine ⟨_, rfl, ?_⟩))
           go_ret
           exact ⟨RT, PB⟩
          ·replace c39 := Bool.eq_false_iff.mpr c39; subst c39; rw [if_neg (show ¬ (false = true) by decide)] at H; obtain rfl := Option.some.inj H; obtain ⟨_, _, _, _, _, _, _, _⟩ := bc4 BK340; go_wp2_with (first | ((with_reducible refine gate_callee (f := 150) rfl ?_); refine goesL_ (some 66) rfl rfl Try.func150 KR rfl #[.int .i64 a0_2, .int .i64 3] rfl AR ?_; (with_reducible refine (impl_at.calls a0_2 3 false _ A38.out).mono ?_); rintro e w' ⟨rfl, ⟨nd, rfl⟩⟩; refine ⟨_, rfl, ?_⟩))
           go_ret
           exact ⟨RT, PB⟩
         ·rw [if_neg c37] at H; have c37b0 : (a0_0 == 8) = false := beq_eq_false_iff_ne.mpr c37; have c37b1 : (a0_0 != 8) = true := bne_iff_ne.mpr c37
          by_cases c42 : a0_0 = 9
          ·rw [if_pos c42] at H; have c42b0 : (a0_0 == 9) = true := beq_iff_eq.mpr c42; have c42b1 : (a0_0 != 9) = false := bne_eq_false_iff_eq.mpr c42; clear c42; replace H := Option.bind_eq_some_iff.mp H; obtain ⟨t349, A430, H⟩ := H; (try dsimp only at H); have A43 := ak A430; clear A430
           by_cases c44 : t349 = true
           ·subst c44; rw [if_pos rfl] at H; obtain rfl := Option.some.inj H; obtain ⟨_, _, _, _, _, _, _, _⟩ := bc4 BK340; go_wp2_with (first | ((with_reducible refine gate_callee (f := 150) rfl ?_); refine goesL_ (some 66) rfl rfl Try.func150 KR rfl #[.int .i64 a0_2, .int .i64 3] rfl AR ?_; (with_reducible refine (impl_at.calls a0_2 3 true _ A43.out).mono ?_); rintro e w' ⟨rfl, ⟨nd, rfl⟩⟩; refine ⟨_, rfl, ?_⟩))
            go_ret
            exact ⟨RT, PB⟩
           ·replace c44 := Bool.eq_false_iff.mpr c44; subst c44; rw [if_neg (show ¬ (false = true) by decide)] at H; obtain rfl := Option.some.inj H; obtain ⟨_, _, _, _, _, _, _, _⟩ := bc4 BK340; go_wp2_with (first | ((with_reducible refine gate_callee (f := 150) rfl ?_); refine goesL_ (some 66) rfl rfl Try.func150 KR rfl #[.int .i64 a0_2, .int .i64 3] rfl AR ?_; (with_reducible refine (impl_at.calls a0_2 3 false _ A43.out).mono ?_); rintro e w' ⟨rfl, ⟨nd, rfl⟩⟩; refine ⟨_, rfl, ?_⟩))
            go_ret
            exact ⟨RT, PB⟩
          ·rw [if_neg c42] at H; have c42b0 : (a0_0 == 9) = false := beq_eq_false_iff_ne.mpr c42; have c42b1 : (a0_0 != 9) = true := bne_iff_ne.mpr c42; obtain rfl := Option.some.inj H; go_wp2
           go_ret
           exact ⟨RT, PB⟩
 ·replace c3 := Bool.eq_false_iff.mpr c3; subst c3; rw [if_neg (show ¬ (false = true) by decide)] at H; obtain rfl := Option.some.inj H; go_enter Try.func117, Try.ntmps117; go_wp2_with (first | ((with_reducible refine gate_dst (N := 1) rfl ?_); refine bx_ (N := 1) #[.int .i64 a0_0, .int .i64 a0_1, .int .i64 a0_2, .int .i64 a0_3] 103 ?_; intro gb340 hg w47 hbox hb; have BK340 := ak hbox; have GW340 := gy hg HB; have GE340 := gy hg HB; replace HB := bs HB hb; clear hb hbox hg; obtain ⟨_, _, _, _, _, _, _, _⟩ := bc4 BK340) | ((with_reducible refine gate_callee (f := 150) rfl ?_); refine goesL_ (some 5) rfl rfl Try.func150 KR rfl #[.int .i64 a0_1, .int .i64 4] rfl AR ?_; (with_reducible refine (impl_at.calls a0_1 4 false _ A2.out).mono ?_); rintro e w' ⟨rfl, ⟨nd, rfl⟩⟩; refine ⟨_, rfl, ?_⟩))
  go_ret
  exact ⟨RT, PB⟩

/-! ### impl_IsScript_lit1: function 116 -/
def impl_IsScript_lit1.f (k : Nat) (a0_0 : Int) (a0_1 : Int) (a0_2 : Int) (a0_3 : Int) : Option (Bool) := (impl_isOp.f k a0_0 a0_1 a0_2 a0_3).bind fun t351 => (some (!t351))
theorem impl_IsScript_lit1.calls (k : Nat) (a0_0 : Int) (a0_1 : Int) (a0_2 : Int) (a0_3 : Int) (r : Bool) (w : World) (h : impl_IsScript_lit1.f k a0_0 a0_1 a0_2 a0_3 = some r) :
  Calls Try.prog 116 #[.agg #[.int .i64 a0_0, .int .i64 a0_1, .int .i64 a0_2, .int .i64 a0_3]] w fun e w' => e = .returned (.bool r) ∧ Below w.heap.size w w' := by
 have hu103 := Try.underlying103; have HB := ak (Below.refl w.heap.size w); have H := h; clear h; unfold impl_IsScript_lit1.f at H; replace H := Option.bind_eq_some_iff.mp H; obtain ⟨t351, A20, H⟩ := H; (try dsimp only at H); have A2 := ak A20; clear A20; obtain rfl := Option.some.inj H; go_enter Try.func116, Try.ntmps116; go_wp2_with (first | ((with_reducible refine gate_dst (N := 1) rfl ?_); refine bx_ (N := 1) #[.int .i64 a0_0, .int .i64 a0_1, .int .i64 a0_2, .int .i64 a0_3] 103 ?_; intro gb350 hg w3 hbox hb; have BK350 := ak hbox; have GW350 := gy hg HB; have GE350 := gy hg HB; replace HB := bs HB hb; clear hb hbox hg; obtain ⟨_, _, _, _, _, _, _, _⟩ := bc4 BK350) | ((with_reducible refine gate_callee (f := 117) rfl ?_); refine goesL_ (some 4) rfl rfl Try.func117 KR rfl #[.agg #[.int .i64 a0_0, .int .i64 a0_1, .int .i64 a0_2, .int .i64 a0_3]] rfl AR ?_; (with_reducible refine (impl_isOp.calls k a0_0 a0_1 a0_2 a0_3 t351 _ A2.out).mono ?_); rintro e w5 ⟨rfl, hb⟩; refine ⟨_, rfl, ?_⟩; replace BK350 := kf BK350 hb; replace HB := bs HB hb; clear hb))
 go_ret
 exact ⟨RT, PB⟩

/-! ### slices_IndexFunc_116: function 163 -/
def slices_IndexFunc_116.l0 : Nat → List (S103) → Int → Int → Option (Int)
  | 0, _, _, _ => none
  | k + 1, x0, x7, x8 => if x8 < x7 then (if 0 ≤ x8 then (if x8 < (x0.length : Int) then ((impl_IsScript_lit1.f k ((rd_T103 x0 x8).f0) ((rd_T103 x0 x8).f1) ((rd_T103 x0 x8).f2) ((rd_T103 x0 x8).f3)).bind fun t353 => (if t353 = true then (some x8) else (slices_IndexFunc_116.l0 k x0 x7 (wrap64 (x8 + 1))))) else (none)) else (none)) else (some (-1))
def slices_IndexFunc_116.f (k : Nat) (l0 : List (S103)) (a1 : Int) : Option (Int) := slices_IndexFunc_116.l0 k l0 (l0.length : Int) 0
theorem slices_IndexFunc_116.calls (k : Nat) (A0 : Option Addr) (c0 : Nat) (l0 : List (S103)) (a1 : Int) (r : Int) (w : World) (hr0 : Kd.C k103 w A0 l0.length l0) (hc0 : l0.length ≤ c0) (h : slices_IndexFunc_116.f k l0 a1 = some r) :
  Calls Try.prog 163 #[.slice A0 l0.length c0, .func (.func 116) #[] #[]] w fun e w' => e = .returned (.int .i64 r) ∧ Below w.heap.size w w' := by
 have hu103 := Try.underlying103; have HR0 := ak hr0; have HC0 := ak hc0; clear hr0 hc0; have HB := ak (Below.refl w.heap.size w); have H := h; clear h; unfold slices_IndexFunc_116.f at H; have H' := ak H; clear H; go_enter Try.func163, Try.ntmps163; go_wp2
 go_loopg [8] k (fun kq v8 w' => ∃ (x8_1 : Int), v8 = .int .i64 x8_1 ∧ Aside0 (slices_IndexFunc_116.l0 kq l0 (l0.length : Int) x8_1 = some r) ∧ Aside0 (kq ≤ k) ∧ Aside0 (Below w.heap.size w w'))
 case atStart => exact ⟨(0), (by first | rfl | (simp; done) | (simp [*]; done)), H', ⟨Nat.le_refl _⟩, ⟨PB⟩⟩
 case round =>
  clear H'
  try clear p2
  obtain ⟨x8_1, rfl, HA, HK1, HB⟩ := hrel
  cases gk with
  | zero => exact absurd HA.out (by simp [slices_IndexFunc_116.l0])
  | succ k1 =>
   have H := HA.out; clear HA; simp only [slices_IndexFunc_116.l0] at H
   by_cases c3 : x8_1 < (l0.length : Int)
   ·rw [if_pos c3] at H; have c3b0 : decide (x8_1 < (l0.length : Int)) = true := decide_eq_true c3; clear c3
    by_cases c4 : 0 ≤ x8_1
    ·rw [if_pos c4] at H; have c4b0 : decide (0 ≤ x8_1) = true := decide_eq_true c4; clear c4
     by_cases c5 : x8_1 < (l0.length : Int)
     ·rw [if_pos c5] at H; have c5b0 : decide (x8_1 < (l0.length : Int)) = true := decide_eq_true c5; clear c5; replace H := Option.bind_eq_some_iff.mp H; obtain ⟨t353, A60, H⟩ := H; (try dsimp only at H); have A6 := ak A60; clear A60
      by_cases c7 : t353 = true
      ·subst c7; rw [if_pos rfl] at H; obtain rfl := Option.some.inj H; have p352 : 0 ≤ (x8_1 : Int) := od; have q352 : x8_1 < (l0.length : Int) := od; obtain ⟨ad352, e352, hx352_0, hx352_1, hx352_2, hx352_3⟩ := at_T103 HR0.out x8_1 p352 q352; cases e352; replace hx352_0 := hx_ HB hx352_0; replace hx352_1 := hx_ HB hx352_1; replace hx352_2 := hx_ HB hx352_2; replace hx352_3 := hx_ HB hx352_3; replace p352 := eq_true p352; replace q352 := eq_true q352; go_wp2_with (first | ((with_reducible refine gate_calleeV (n := 11) rfl ?_); refine goesLV_ (some 16) rfl rfl Try.func116 KR rfl #[.agg #[.int .i64 ((rd_T103 l0 x8_1).f0), .int .i64 ((rd_T103 l0 x8_1).f1), .int .i64 ((rd_T103 l0 x8_1).f2), .int .i64 ((rd_T103 l0 x8_1).f3)]] rfl AR ?_; (with_reducible refine (impl_IsScript_lit1.calls k1 ((rd_T103 l0 x8_1).f0) ((rd_T103 l0 x8_1).f1) ((rd_T103 l0 x8_1).f2) ((rd_T103 l0 x8_1).f3) true _ A6.out).mono ?_); rintro e w8 ⟨rfl, hb⟩; refine ⟨_, rfl, ?_⟩; replace HB := bs HB hb; clear hb))
       go_ret
       exact ⟨RT, PB⟩
      ·replace c7 := Bool.eq_false_iff.mpr c7; subst c7; rw [if_neg (show ¬ (false = true) by decide)] at H; have H' := ak H; clear H; have p352 : 0 ≤ (x8_1 : Int) := od; have q352 : x8_1 < (l0.length : Int) := od; obtain ⟨ad352, e352, hx352_0, hx352_1, hx352_2, hx352_3⟩ := at_T103 HR0.out x8_1 p352 q352; cases e352; replace hx352_0 := hx_ HB hx352_0; replace hx352_1 := hx_ HB hx352_1; replace hx352_2 := hx_ HB hx352_2; replace hx352_3 := hx_ HB hx352_3; replace p352 := eq_true p352; replace q352 := eq_true q352; go_wp2_with (first | ((with_reducible refine gate_calleeV (n := 11) rfl ?_); refine goesLV_ (some 16) rfl rfl Try.func116 KR rfl #[.agg #[.int .i64 ((rd_T103 l0 x8_1).f0), .int .i64 ((rd_T103 l0 x8_1).f1), .int .i64 ((rd_T103 l0 x8_1).f2), .int .i64 ((rd_T103 l0 x8_1).f3)]] rfl AR ?_; (with_reducible refine (impl_IsScript_lit1.calls k1 ((rd_T103 l0 x8_1).f0) ((rd_T103 l0 x8_1).f1) ((rd_T103 l0 x8_1).f2) ((rd_T103 l0 x8_1).f3) false _ A6.out).mono ?_); rintro e w9 ⟨rfl, hb⟩; refine ⟨_, rfl, ?_⟩; replace HB := bs HB hb; clear hb))
       go_roundg k1
       case measure => have := HK1.out; omega
       case rel => exact ⟨(wrap64 (x8_1 + 1)), (by first | rfl | (simp; done) | (simp [*]; done)), H', ⟨by have := HK1.out; omega⟩, ⟨PB⟩⟩
     ·rw [if_neg c5] at H; exact absurd H (by simp)
    ·rw [if_neg c4] at H; exact absurd H (by simp)
   ·rw [if_neg c3] at H; have c3b0 : decide (x8_1 < (l0.length : Int)) = false := decide_eq_false c3; clear c3; obtain rfl := Option.some.inj H; go_wp2
    go_ret
    exact ⟨RT, PB⟩

/-! ### slices_ContainsFunc_116: function 115 -/
def slices_ContainsFunc_116.f (k : Nat) (l0 : List (S103)) (a1 : Int) : Option (Bool) := (slices_IndexFunc_116.f k l0 a1).bind fun t354 => (some (decide (t354 ≥ 0)))
theorem slices_ContainsFunc_116.calls (k : Nat) (A0 : Option Addr) (c0 : Nat) (l0 : List (S103)) (a1 : Int) (r : Bool) (w : World) (hr0 : Kd.C k103 w A0 l0.length l0) (hc0 : l0.length ≤ c0) (h : slices_ContainsFunc_116.f k l0 a1 = some r) :
  Calls Try.prog 115 #[.slice A0 l0.length c0, .func (.func 116) #[] #[]] w fun e w' => e = .returned (.bool r) ∧ Below w.heap.size w w' := by
 have HR0 := ak hr0; have HC0 := ak hc0; clear hr0 hc0; have HB := ak (Below.refl w.heap.size w); have H := h; clear h; unfold slices_ContainsFunc_116.f at H; replace H := Option.bind_eq_some_iff.mp H; obtain ⟨t354, A30, H⟩ := H; (try dsimp only at H); have A3 := ak A30; clear A30; obtain rfl := Option.some.inj H; go_enter Try.func115, Try.ntmps115; go_wp2_with (first | ((with_reducible refine gate_callee (f := 163) rfl ?_); refine goesL_ (some 7) rfl rfl Try.func163 KR rfl #[.slice A0 l0.length c0, .func (.func 116) #[] #[]] rfl AR ?_; (with_reducible refine (slices_IndexFunc_116.calls k _ _ l0 a1 t354 _ ?side1 ?side2 A3.out).mono ?_); (case side1 => exact CR (HR0.out)); (case side2 => exact HC0.out); rintro e w4 ⟨rfl, hb⟩; refine ⟨_, rfl, ?_⟩; replace HB := bs HB hb; clear hb))
 go_ret
 exact ⟨RT, PB⟩

end Go.Proofs.Ytmhonflpbokkeaa.MFnExactReplay
