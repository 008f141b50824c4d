-- Written by a program of this session out of the translation's own print. Not trusted: Lean checks it.
import Derived.Test.YtgcamebeonodeaaShr2
import Derived.Test.YtgcamebeonodeaaMFnExactStepStatex0
namespace Go.Proofs.Ytgcamebeonodeaa.MFnExactStepState
open Go.RowKit Go.Proofs.YtgcamebeonodeaaW.PrintWords Go.Proofs.YtgcamebeonodeaaW.PrintLast Go.Proofs.YtgcamebeonodeaaW.PrintMore
attribute [local go_sem] max2_int min2_int max_two min_two max_three min_three max_four min_four   -- for this text's walks alone
set_option linter.unusedVariables false
set_option linter.unusedSimpArgs false

/-! ### laws_szOpS: function 37 -/
def laws_szOpS.f (l0 : List (S136)) (a1 : Int) : Option (Int) := if (wrap64 (a1 - (l0.length : Int))) < 0 then (some (-1)) else (some (wrap64 (a1 - (l0.length : Int))))
set_option maxHeartbeats 8000000 in
set_option maxRecDepth 100000 in
theorem laws_szOpS.calls (A0 : Option Addr) (c0 : Nat) (l0 : List (S136)) (a1 : Int) (r : Int) (w : World) (hr0 : Kd.C k136 w A0 l0.length l0) (hc0 : l0.length ≤ c0) (h : laws_szOpS.f l0 a1 = some r) :
  Calls Try.prog 37 #[.slice A0 l0.length c0, .int .i64 a1] w fun e w' => e = .returned (.int .i64 r) ∧ Drawn0 w w' := by
 have HR0 := Aside0.mk hr0
 have HC0 := Aside0.mk hc0
 clear hr0 hc0
 have H : (if (wrap64 (a1 - (l0.length : Int))) < 0 then (some (-1)) else (some (wrap64 (a1 - (l0.length : Int))))) = some r := h
 clear h
 by_cases c3 : (wrap64 (a1 - (l0.length : Int))) < 0
 ·rw [if_pos c3] at H
  have c3b0 : decide ((wrap64 (a1 - (l0.length : Int))) < 0) = true := decide_eq_true c3
  clear c3
  obtain rfl := Option.some.inj H
  go_enter Try.func37, Try.ntmps37
  go_wp2
  go_ret
  exact ⟨by first | rfl | (simp; done) | (simp [*]; done), by repeat (first | exact Drawn0.refl _ | apply Drawn0.step)⟩
 ·rw [if_neg c3] at H
  have c3b0 : decide ((wrap64 (a1 - (l0.length : Int))) < 0) = false := decide_eq_false c3
  clear c3
  obtain rfl := Option.some.inj H
  go_enter Try.func37, Try.ntmps37
  go_wp2
  go_ret
  exact ⟨by first | rfl | (simp; done) | (simp [*]; done), by repeat (first | exact Drawn0.refl _ | apply Drawn0.step)⟩

/-! ### laws_szIntS: function 96 -/
def laws_szIntS.f (l0 : List Int) (a1 : Int) : Option (Int) := if (wrap64 (a1 - (l0.length : Int))) < 0 then (some (-1)) else (some (wrap64 (a1 - (l0.length : Int))))
set_option maxHeartbeats 8000000 in
set_option maxRecDepth 100000 in
theorem laws_szIntS.calls (A0 : Option Addr) (c0 : Nat) (l0 : List Int) (a1 : Int) (r : Int) (w : World) (hr0 : Kd.C (Kd.int .i64) w A0 l0.length l0) (hc0 : l0.length ≤ c0) (h : laws_szIntS.f l0 a1 = some r) :
  Calls Try.prog 96 #[.slice A0 l0.length c0, .int .i64 a1] w fun e w' => e = .returned (.int .i64 r) ∧ Drawn0 w w' := by
 have HR0 := Aside0.mk hr0
 have HC0 := Aside0.mk hc0
 clear hr0 hc0
 have H : (if (wrap64 (a1 - (l0.length : Int))) < 0 then (some (-1)) else (some (wrap64 (a1 - (l0.length : Int))))) = some r := h
 clear h
 by_cases c3 : (wrap64 (a1 - (l0.length : Int))) < 0
 ·rw [if_pos c3] at H
  have c3b0 : decide ((wrap64 (a1 - (l0.length : Int))) < 0) = true := decide_eq_true c3
  clear c3
  obtain rfl := Option.some.inj H
  go_enter Try.func96, Try.ntmps96
  go_wp2
  go_ret
  exact ⟨by first | rfl | (simp; done) | (simp [*]; done), by repeat (first | exact Drawn0.refl _ | apply Drawn0.step)⟩
 ·rw [if_neg c3] at H
  have c3b0 : decide ((wrap64 (a1 - (l0.length : Int))) < 0) = false := decide_eq_false c3
  clear c3
  obtain rfl := Option.some.inj H
  go_enter Try.func96, Try.ntmps96
  go_wp2
  go_ret
  exact ⟨by first | rfl | (simp; done) | (simp [*]; done), by repeat (first | exact Drawn0.refl _ | apply Drawn0.step)⟩

/-! ### laws_szState: function 38 -/
def laws_szState.f (a0_0 : Int) (l0_1 : List Int) (l0_2 : List Int) (l0_3 : List Int) (a1 : Int) : Option (Int) := (laws_szIntS.f l0_1 a1).bind fun t172 => (if t172 < 0 then (some (-1)) else ((laws_szIntS.f l0_2 t172).bind fun t173 => (if t173 < 0 then (some (-1)) else ((laws_szIntS.f l0_3 t173).bind fun t174 => (if t174 < 0 then (some (-1)) else (some t174))))))
set_option maxHeartbeats 8000000 in
set_option maxRecDepth 100000 in
theorem laws_szState.calls (a0_0 : Int) (A0_1 : Option Addr) (c0_1 : Nat) (l0_1 : List Int) (A0_2 : Option Addr) (c0_2 : Nat) (l0_2 : List Int) (A0_3 : Option Addr) (c0_3 : Nat) (l0_3 : List Int) (a1 : Int) (r : Int) (w : World) (hr0_1 : Kd.C (Kd.int .i64) w A0_1 l0_1.length l0_1) (hc0_1 : l0_1.length ≤ c0_1) (hr0_2 : Kd.C (Kd.int .i64) w A0_2 l0_2.length l0_2) (hc0_2 : l0_2.length ≤ c0_2) (hr0_3 : Kd.C (Kd.int .i64) w A0_3 l0_3.length l0_3) (hc0_3 : l0_3.length ≤ c0_3) (h : laws_szState.f a0_0 l0_1 l0_2 l0_3 a1 = some r) :
  Calls Try.prog 38 #[.agg #[.int .i64 a0_0, .slice A0_1 l0_1.length c0_1, .slice A0_2 l0_2.length c0_2, .slice A0_3 l0_3.length c0_3], .int .i64 a1] w fun e w' => e = .returned (.int .i64 r) ∧ Below w.heap.size w w' := by
 have hu72 := Try.underlying72
 have HR0_1 := Aside0.mk hr0_1
 have HC0_1 := Aside0.mk hc0_1
 clear hr0_1 hc0_1
 have HR0_2 := Aside0.mk hr0_2
 have HC0_2 := Aside0.mk hc0_2
 clear hr0_2 hc0_2
 have HR0_3 := Aside0.mk hr0_3
 have HC0_3 := Aside0.mk hc0_3
 clear hr0_3 hc0_3
 have HB := ak (Below.refl w.heap.size w)
 have H : ((laws_szIntS.f l0_1 a1).bind fun t172 => (if t172 < 0 then (some (-1)) else ((laws_szIntS.f l0_2 t172).bind fun t173 => (if t173 < 0 then (some (-1)) else ((laws_szIntS.f l0_3 t173).bind fun t174 => (if t174 < 0 then (some (-1)) else (some t174))))))) = some r := h
 clear h
 replace H := Option.bind_eq_some_iff.mp H
 obtain ⟨t172, A30, H⟩ := H
 replace H : (if t172 < 0 then (some (-1)) else ((laws_szIntS.f l0_2 t172).bind fun t173 => (if t173 < 0 then (some (-1)) else ((laws_szIntS.f l0_3 t173).bind fun t174 => (if t174 < 0 then (some (-1)) else (some t174)))))) = some r := H
 have A3 := Aside0.mk A30
 clear A30
 by_cases c4 : t172 < 0
 ·rw [if_pos c4] at H
  have c4b0 : decide (t172 < 0) = true := decide_eq_true c4
  clear c4
  obtain rfl := Option.some.inj H
  go_enter Try.func38, Try.ntmps38
  go_wp2_with (first | ((with_reducible refine gate_dst (N := 2) rfl ?_); refine bx_ (N := 2) #[.int .i64 a0_0, .slice A0_1 l0_1.length c0_1, .slice A0_2 l0_2.length c0_2, .slice A0_3 l0_3.length c0_3] 72 ?_; intro gb171 hg w5 hbox hb; have BK171 := ak hbox; have GW171 := gy hg HB; have GE171 := gy hg HB; replace HB := bs HB hb; clear hb hbox hg; obtain ⟨_, _, _, _, _, _, _, _⟩ := bc4 BK171) | ((with_reducible refine gate_callee (f := 96) rfl ?_); refine goesL_ (some 8) rfl rfl Try.func96 KR rfl #[.slice A0_1 l0_1.length c0_1, .int .i64 a1] rfl AR ?_; (with_reducible refine (laws_szIntS.calls _ _ l0_1 a1 t172 _ ?side1 ?side2 A3.out).mono ?_); (case side1 => exact CR (Kd.C_below HR0_1.out HB.out)); (case side2 => exact HC0_1.out); rintro e w' ⟨rfl, ⟨nd, rfl⟩⟩; refine ⟨_, rfl, ?_⟩))
  go_ret
  exact ⟨RT, PB⟩
 ·rw [if_neg c4] at H
  have c4b0 : decide (t172 < 0) = false := decide_eq_false c4
  clear c4
  replace H := Option.bind_eq_some_iff.mp H
  obtain ⟨t173, A70, H⟩ := H
  replace H : (if t173 < 0 then (some (-1)) else ((laws_szIntS.f l0_3 t173).bind fun t174 => (if t174 < 0 then (some (-1)) else (some t174)))) = some r := H
  have A7 := Aside0.mk A70
  clear A70
  by_cases c8 : t173 < 0
  ·rw [if_pos c8] at H
   have c8b0 : decide (t173 < 0) = true := decide_eq_true c8
   clear c8
   obtain rfl := Option.some.inj H
   go_enter Try.func38, Try.ntmps38
   go_wp2_with (first | ((with_reducible refine gate_dst (N := 2) rfl ?_); refine bx_ (N := 2) #[.int .i64 a0_0, .slice A0_1 l0_1.length c0_1, .slice A0_2 l0_2.length c0_2, .slice A0_3 l0_3.length c0_3] 72 ?_; intro gb171 hg w9 hbox hb; have BK171 := ak hbox; have GW171 := gy hg HB; have GE171 := gy hg HB; replace HB := bs HB hb; clear hb hbox hg; obtain ⟨_, _, _, _, _, _, _, _⟩ := bc4 BK171) | ((with_reducible refine gate_callee (f := 96) rfl ?_); refine goesL_ (some 8) rfl rfl Try.func96 KR rfl #[.slice A0_1 l0_1.length c0_1, .int .i64 a1] rfl AR ?_; (with_reducible refine (laws_szIntS.calls _ _ l0_1 a1 t172 _ ?side1 ?side2 A3.out).mono ?_); (case side1 => exact CR (Kd.C_below HR0_1.out HB.out)); (case side2 => exact HC0_1.out); rintro e w' ⟨rfl, ⟨nd, rfl⟩⟩; refine ⟨_, rfl, ?_⟩) | ((with_reducible refine gate_callee (f := 96) rfl ?_); refine goesL_ (some 14) rfl rfl Try.func96 KR rfl #[.slice A0_2 l0_2.length c0_2, .int .i64 t172] rfl AR ?_; (with_reducible refine (laws_szIntS.calls _ _ l0_2 t172 t173 _ ?side1 ?side2 A7.out).mono ?_); (case side1 => repeat (first | exact (Kd.C_below HR0_2.out PB) | (with_reducible refine Kd.C_alloc ?_ _) | (with_reducible refine Kd.C_drewN ?_ _) | (with_reducible refine Kd.C_drew ?_))); (case side2 => exact HC0_2.out); rintro e w' ⟨rfl, ⟨nd, rfl⟩⟩; refine ⟨_, rfl, ?_⟩))
   go_ret
   exact ⟨RT, PB⟩
  ·rw [if_neg c8] at H
   have c8b0 : decide (t173 < 0) = false := decide_eq_false c8
   clear c8
   replace H := Option.bind_eq_some_iff.mp H
   obtain ⟨t174, A110, H⟩ := H
   replace H : (if t174 < 0 then (some (-1)) else (some t174)) = some r := H
   have A11 := Aside0.mk A110
   clear A110
   by_cases c12 : t174 < 0
   ·rw [if_pos c12] at H
    have c12b0 : decide (t174 < 0) = true := decide_eq_true c12
    clear c12
    obtain rfl := Option.some.inj H
    go_enter Try.func38, Try.ntmps38
    go_wp2_with (first | ((with_reducible refine gate_dst (N := 2) rfl ?_); refine bx_ (N := 2) #[.int .i64 a0_0, .slice A0_1 l0_1.length c0_1, .slice A0_2 l0_2.length c0_2, .slice A0_3 l0_3.length c0_3] 72 ?_; intro gb171 hg w13 hbox hb; have BK171 := ak hbox; have GW171 := gy hg HB; have GE171 := gy hg HB; replace HB := bs HB hb; clear hb hbox hg; obtain ⟨_, _, _, _, _, _, _, _⟩ := bc4 BK171) | ((with_reducible refine gate_callee (f := 96) rfl ?_); refine goesL_ (some 8) rfl rfl Try.func96 KR rfl #[.slice A0_1 l0_1.length c0_1, .int .i64 a1] rfl AR ?_; (with_reducible refine (laws_szIntS.calls _ _ l0_1 a1 t172 _ ?side1 ?side2 A3.out).mono ?_); (case side1 => exact CR (Kd.C_below HR0_1.out HB.out)); (case side2 => exact HC0_1.out); rintro e w' ⟨rfl, ⟨nd, rfl⟩⟩; refine ⟨_, rfl, ?_⟩) | ((with_reducible refine gate_callee (f := 96) rfl ?_); refine goesL_ (some 14) rfl rfl Try.func96 KR rfl #[.slice A0_2 l0_2.length c0_2, .int .i64 t172] rfl AR ?_; (with_reducible refine (laws_szIntS.calls _ _ l0_2 t172 t173 _ ?side1 ?side2 A7.out).mono ?_); (case side1 => repeat (first | exact (Kd.C_below HR0_2.out PB) | (with_reducible refine Kd.C_alloc ?_ _) | (with_reducible refine Kd.C_drewN ?_ _) | (with_reducible refine Kd.C_drew ?_))); (case side2 => exact HC0_2.out); rintro e w' ⟨rfl, ⟨nd, rfl⟩⟩; refine ⟨_, rfl, ?_⟩) | ((with_reducible refine gate_callee (f := 96) rfl ?_); refine goesL_ (some 20) rfl rfl Try.func96 KR rfl #[.slice A0_3 l0_3.length c0_3, .int .i64 t173] rfl AR ?_; (with_reducible refine (laws_szIntS.calls _ _ l0_3 t173 t174 _ ?side1 ?side2 A11.out).mono ?_); (case side1 => repeat (first | exact (Kd.C_below HR0_3.out PB) | (with_reducible refine Kd.C_alloc ?_ _) | (with_reducible refine Kd.C_drewN ?_ _) | (with_reducible refine Kd.C_drew ?_))); (case side2 => exact HC0_3.out); rintro e w' ⟨rfl, ⟨nd, rfl⟩⟩; refine ⟨_, rfl, ?_⟩))
    go_ret
    exact ⟨RT, PB⟩
   ·rw [if_neg c12] at H
    have c12b0 : decide (t174 < 0) = false := decide_eq_false c12
    clear c12
    obtain rfl := Option.some.inj H
    go_enter Try.func38, Try.ntmps38
    go_wp2_with (first | ((with_reducible refine gate_dst (N := 2) rfl ?_); refine bx_ (N := 2) #[.int .i64 a0_0, .slice A0_1 l0_1.length c0_1, .slice A0_2 l0_2.length c0_2, .slice A0_3 l0_3.length c0_3] 72 ?_; intro gb171 hg w15 hbox hb; have BK171 := ak hbox; have GW171 := gy hg HB; have GE171 := gy hg HB; replace HB := bs HB hb; clear hb hbox hg; obtain ⟨_, _, _, _, _, _, _, _⟩ := bc4 BK171) | ((with_reducible refine gate_callee (f := 96) rfl ?_); refine goesL_ (some 8) rfl rfl Try.func96 KR rfl #[.slice A0_1 l0_1.length c0_1, .int .i64 a1] rfl AR ?_; (with_reducible refine (laws_szIntS.calls _ _ l0_1 a1 t172 _ ?side1 ?side2 A3.out).mono ?_); (case side1 => exact CR (Kd.C_below HR0_1.out HB.out)); (case side2 => exact HC0_1.out); rintro e w' ⟨rfl, ⟨nd, rfl⟩⟩; refine ⟨_, rfl, ?_⟩) | ((with_reducible refine gate_callee (f := 96) rfl ?_); refine goesL_ (some 14) rfl rfl Try.func96 KR rfl #[.slice A0_2 l0_2.length c0_2, .int .i64 t172] rfl AR ?_; (with_reducible refine (laws_szIntS.calls _ _ l0_2 t172 t173 _ ?side1 ?side2 A7.out).mono ?_); (case side1 => repeat (first | exact (Kd.C_below HR0_2.out PB) | (with_reducible refine Kd.C_alloc ?_ _) | (with_reducible refine Kd.C_drewN ?_ _) | (with_reducible refine Kd.C_drew ?_))); (case side2 => exact HC0_2.out); rintro e w' ⟨rfl, ⟨nd, rfl⟩⟩; refine ⟨_, rfl, ?_⟩) | ((with_reducible refine gate_callee (f := 96) rfl ?_); refine goesL_ (some 20) rfl rfl Try.func96 KR rfl #[.slice A0_3 l0_3.length c0_3, .int .i64 t173] rfl AR ?_; (with_reducible refine (laws_szIntS.calls _ _ l0_3 t173 t174 _ ?side1 ?side2 A11.out).mono ?_); (case side1 => repeat (first | exact (Kd.C_below HR0_3.out PB) | (with_reducible refine Kd.C_alloc ?_ _) | (with_reducible refine Kd.C_drewN ?_ _) | (with_reducible refine Kd.C_drew ?_))); (case side2 => exact HC0_3.out); rintro e w' ⟨rfl, ⟨nd, rfl⟩⟩; refine ⟨_, rfl, ?_⟩))
    go_ret
    exact ⟨RT, PB⟩

end Go.Proofs.Ytgcamebeonodeaa.MFnExactStepState
