-- Written by a program of this session out of the translation's own print. Not trusted: Lean checks it.
import Derived.Test.YtmcfdpodoebokaaShr2
import Derived.Test.YtmcfdpodoebokaaMFnExactAddCapturesx0
import Derived.Test.YtmcfdpodoebokaaMFnExactAddCapturesx5
import Derived.Test.YtmcfdpodoebokaaMFnExactAddCapturesx1
namespace Go.Proofs.Ytmcfdpodoebokaa.MFnExactAddCaptures
open Go.RowKit Go.Proofs.YtmcfdpodoebokaaW.PrintWords Go.Proofs.YtmcfdpodoebokaaW.PrintLast Go.Proofs.YtmcfdpodoebokaaW.PrintMore
attribute [local go_sem] max2_int min2_int max_two min_two max_three min_three max_four min_four   -- for this text's walks alone
set_option linter.unusedVariables false
set_option linter.unusedSimpArgs false

/-! ### impl_IsAddress: function 36 -/
def impl_IsAddress.f (a0_0 : Int) (a0_1 : Int) (a0_2 : Int) : Option (Bool) := (impl_InRange.f a0_0 1 9).bind fun t255 => (if t255 = true then ((impl_InRange.f a0_1 0 99).bind fun t256 => (if t256 = true then ((impl_InRange.f a0_2 0 99).bind fun t257 => (some t257)) else (some false))) else (some false))
set_option maxHeartbeats 8000000 in
set_option maxRecDepth 100000 in
theorem impl_IsAddress.calls (a0_0 : Int) (a0_1 : Int) (a0_2 : Int) (r : Bool) (w : World) (h : impl_IsAddress.f a0_0 a0_1 a0_2 = some r) :
  Calls Try.prog 36 #[.agg #[.int .i64 a0_0, .int .i64 a0_1, .int .i64 a0_2]] w fun e w' => e = .returned (.bool r) ∧ Below w.heap.size w w' := by
 have hu41 := Try.underlying41
 have HB := ak (Below.refl w.heap.size w)
 have H : ((impl_InRange.f a0_0 1 9).bind fun t255 => (if t255 = true then ((impl_InRange.f a0_1 0 99).bind fun t256 => (if t256 = true then ((impl_InRange.f a0_2 0 99).bind fun t257 => (some t257)) else (some false))) else (some false))) = some r := h
 clear h
 replace H := Option.bind_eq_some_iff.mp H
 obtain ⟨t255, A20, H⟩ := H
 replace H : (if t255 = true then ((impl_InRange.f a0_1 0 99).bind fun t256 => (if t256 = true then ((impl_InRange.f a0_2 0 99).bind fun t257 => (some t257)) else (some false))) else (some false)) = some r := H
 have A2 := Aside0.mk A20
 clear A20
 by_cases c3 : t255 = true
 ·subst c3
  have H1 : ((impl_InRange.f a0_1 0 99).bind fun t256 => (if t256 = true then ((impl_InRange.f a0_2 0 99).bind fun t257 => (some t257)) else (some false))) = some r := by rw [if_pos rfl] at H; exact H
  clear H
  have H := H1
  clear H1
  replace H := Option.bind_eq_some_iff.mp H
  obtain ⟨t256, A40, H⟩ := H
  replace H : (if t256 = true then ((impl_InRange.f a0_2 0 99).bind fun t257 => (some t257)) else (some false)) = some r := H
  have A4 := Aside0.mk A40
  clear A40
  by_cases c5 : t256 = true
  ·subst c5
   have H1 : ((impl_InRange.f a0_2 0 99).bind fun t257 => (some t257)) = some r := by rw [if_pos rfl] at H; exact H
   clear H
   have H := H1
   clear H1
   replace H := Option.bind_eq_some_iff.mp H
   obtain ⟨t257, A60, H⟩ := H
   replace H : (some t257) = some r := H
   have A6 := Aside0.mk A60
   clear A60
   obtain rfl := Option.some.inj H
   go_enter Try.func36, Try.ntmps36
   go_wp2_with (first | ((with_reducible refine gate_dst (N := 1) rfl ?_); refine bx_ (N := 1) #[.int .i64 a0_0, .int .i64 a0_1, .int .i64 a0_2] 41 ?_; intro gb254 hg w7 hbox hb; have BK254 := ak hbox; have GW254 := gy hg HB; have GE254 := gy hg HB; replace HB := bs HB hb; clear hb hbox hg; obtain ⟨hcz8_0, hcz8_1, hcz8_2, hfz8_0, hfz8_1, hfz8_2⟩ := bc3 BK254) | ((with_reducible refine gate_callee (f := 37) rfl ?_); refine goesL_ (some 5) rfl rfl Try.func37 KR rfl #[.int .i64 a0_0, .int .i64 1, .int .i64 9] rfl AR ?_; (with_reducible refine (impl_InRange.calls a0_0 1 9 true _ A2.out).mono ?_); rintro e w' ⟨rfl, ⟨nd, rfl⟩⟩; refine ⟨_, rfl, ?_⟩) | (go_at_call 37; (with_reducible refine (impl_InRange.calls a0_1 0 99 true _ A4.out).mono ?_); rintro e w' ⟨rfl, ⟨nd, rfl⟩⟩) | (go_at_call 37; (with_reducible refine (impl_InRange.calls a0_2 0 99 t257 _ A6.out).mono ?_); rintro e w' ⟨rfl, ⟨nd, rfl⟩⟩))
   go_ret
   exact ⟨RT, PB⟩
  ·replace c5 := Bool.eq_false_iff.mpr c5
   subst c5
   have H1 : (some false) = some r := by rw [if_neg (show ¬ (false = true) by decide)] at H; exact H
   clear H
   have H := H1
   clear H1
   obtain rfl := Option.some.inj H
   go_enter Try.func36, Try.ntmps36
   go_wp2_with (first | ((with_reducible refine gate_dst (N := 1) rfl ?_); refine bx_ (N := 1) #[.int .i64 a0_0, .int .i64 a0_1, .int .i64 a0_2] 41 ?_; intro gb254 hg w9 hbox hb; have BK254 := ak hbox; have GW254 := gy hg HB; have GE254 := gy hg HB; replace HB := bs HB hb; clear hb hbox hg; obtain ⟨hcz10_0, hcz10_1, hcz10_2, hfz10_0, hfz10_1, hfz10_2⟩ := bc3 BK254) | ((with_reducible refine gate_callee (f := 37) rfl ?_); refine goesL_ (some 5) rfl rfl Try.func37 KR rfl #[.int .i64 a0_0, .int .i64 1, .int .i64 9] rfl AR ?_; (with_reducible refine (impl_InRange.calls a0_0 1 9 true _ A2.out).mono ?_); rintro e w' ⟨rfl, ⟨nd, rfl⟩⟩; refine ⟨_, rfl, ?_⟩) | (go_at_call 37; (with_reducible refine (impl_InRange.calls a0_1 0 99 false _ A4.out).mono ?_); rintro e w' ⟨rfl, ⟨nd, rfl⟩⟩))
   go_ret
   exact ⟨RT, PB⟩
 ·replace c3 := Bool.eq_false_iff.mpr c3
  subst c3
  have H1 : (some false) = some r := by rw [if_neg (show ¬ (false = true) by decide)] at H; exact H
  clear H
  have H := H1
  clear H1
  obtain rfl := Option.some.inj H
  go_enter Try.func36, Try.ntmps36
  go_wp2_with (first | ((with_reducible refine gate_dst (N := 1) rfl ?_); refine bx_ (N := 1) #[.int .i64 a0_0, .int .i64 a0_1, .int .i64 a0_2] 41 ?_; intro gb254 hg w11 hbox hb; have BK254 := ak hbox; have GW254 := gy hg HB; have GE254 := gy hg HB; replace HB := bs HB hb; clear hb hbox hg; obtain ⟨hcz12_0, hcz12_1, hcz12_2, hfz12_0, hfz12_1, hfz12_2⟩ := bc3 BK254) | ((with_reducible refine gate_callee (f := 37) rfl ?_); refine goesL_ (some 5) rfl rfl Try.func37 KR rfl #[.int .i64 a0_0, .int .i64 1, .int .i64 9] rfl AR ?_; (with_reducible refine (impl_InRange.calls a0_0 1 9 false _ A2.out).mono ?_); rintro e w' ⟨rfl, ⟨nd, rfl⟩⟩; refine ⟨_, rfl, ?_⟩))
  go_ret
  exact ⟨RT, PB⟩

/-! ### impl_allIn: function 47 -/
def impl_allIn.l0 : Nat → Int → Int → List Int → Int → Int → Option (Bool)
  | 0, _, _, _, _, _ => none
  | k + 1, x1, x2, x9, x10, x11 => if x11 < x10 then (if 0 ≤ x11 then (if x11 < (x9.length : Int) then ((impl_InRange.f (rd x9 x11) x1 x2).bind fun t259 => (if t259 = true then (impl_allIn.l0 k x1 x2 x9 x10 (wrap64 (x11 + 1))) else (some false))) else (none)) else (none)) else (some true)
def impl_allIn.f (k : Nat) (l0 : List Int) (a1 : Int) (a2 : Int) : Option (Bool) := impl_allIn.l0 k a1 a2 l0 (l0.length : Int) 0
set_option maxHeartbeats 8000000 in
set_option maxRecDepth 100000 in
theorem impl_allIn.calls (k : Nat) (A0 : Option Addr) (c0 : Nat) (l0 : List Int) (a1 : Int) (a2 : Int) (r : Bool) (w : World) (hr0 : Kd.C (Kd.int .i64) w A0 l0.length l0) (hc0 : l0.length ≤ c0) (h : impl_allIn.f k l0 a1 a2 = some r) :
  Calls Try.prog 47 #[.slice A0 l0.length c0, .int .i64 a1, .int .i64 a2] w fun e w' => e = .returned (.bool r) ∧ Drawn0 w w' := by
 have HR0 := Aside0.mk hr0
 have HC0 := Aside0.mk hc0
 clear hr0 hc0
 have H : (impl_allIn.l0 k a1 a2 l0 (l0.length : Int) 0) = some r := h
 clear h
 have H' := Aside0.mk H
 clear H
 go_enter Try.func47, Try.ntmps47
 go_wp2
 go_loopg [11] k (fun kq v11 w' => ∃ (x11_1 : Int), v11 = .int .i64 x11_1 ∧ Aside0 (impl_allIn.l0 kq a1 a2 l0 (l0.length : Int) x11_1 = some r) ∧ Aside0 (kq ≤ k) ∧ Drawn0 w w')
 case atStart => exact ⟨(0), (by first | rfl | (simp; done) | (simp [*]; done)), H', ⟨Nat.le_refl _⟩, by repeat (first | exact Drawn0.refl _ | apply Drawn0.step)⟩
 case round =>
  clear H'
  try clear p2
  obtain ⟨x11_1, rfl, HA, HK1, ⟨m1, rfl⟩⟩ := hrel
  cases gk with
  | zero => exact absurd HA.out (by simp [impl_allIn.l0])
  | succ k1 =>
   have H := HA.out
   clear HA
   simp only [impl_allIn.l0] at H
   by_cases c4 : x11_1 < (l0.length : Int)
   ·rw [if_pos c4] at H
    have c4b0 : decide (x11_1 < (l0.length : Int)) = true := decide_eq_true c4
    clear c4
    by_cases c5 : 0 ≤ x11_1
    ·rw [if_pos c5] at H
     have c5b0 : decide (0 ≤ x11_1) = true := decide_eq_true c5
     clear c5
     by_cases c6 : x11_1 < (l0.length : Int)
     ·rw [if_pos c6] at H
      have c6b0 : decide (x11_1 < (l0.length : Int)) = true := decide_eq_true c6
      clear c6
      replace H := Option.bind_eq_some_iff.mp H
      obtain ⟨t259, A70, H⟩ := H
      replace H : (if t259 = true then (impl_allIn.l0 k1 a1 a2 l0 (l0.length : Int) (wrap64 (x11_1 + 1))) else (some false)) = some r := H
      have A7 := Aside0.mk A70
      clear A70
      by_cases c8 : t259 = true
      ·subst c8
       have H1 : (impl_allIn.l0 k1 a1 a2 l0 (l0.length : Int) (wrap64 (x11_1 + 1))) = some r := by rw [if_pos rfl] at H; exact H
       clear H
       have H := H1
       clear H1
       have H' := Aside0.mk H
       clear H
       have p258 : 0 ≤ (x11_1 : Int) := of_decide_eq_true (by first | (with_reducible assumption) | assumption)
       have q258 : x11_1 < (l0.length : Int) := of_decide_eq_true (by first | (with_reducible assumption) | assumption)
       obtain ⟨ad258, e258, hx258_0⟩ := Kd.at_int HR0.out x11_1 p258 q258
       cases e258
       replace p258 := eq_true p258
       replace q258 := eq_true q258
       go_wp2_with (first | ((with_reducible refine gate_callee (f := 37) rfl ?_); refine goesL_ (some 18) rfl rfl Try.func37 KR rfl #[.int .i64 (rd l0 x11_1), .int .i64 a1, .int .i64 a2] rfl AR ?_; (with_reducible refine (impl_InRange.calls (rd l0 x11_1) a1 a2 true _ A7.out).mono ?_); rintro e w' ⟨rfl, ⟨nd, rfl⟩⟩; refine ⟨_, rfl, ?_⟩))
       go_roundg k1
       case measure => have := HK1.out; omega
       case rel => exact ⟨(wrap64 (x11_1 + 1)), (by first | rfl | (simp; done) | (simp [*]; done)), H', ⟨by have := HK1.out; omega⟩, by repeat (first | exact Drawn0.refl _ | apply Drawn0.step)⟩
      ·replace c8 := Bool.eq_false_iff.mpr c8
       subst c8
       have H1 : (some false) = some r := by rw [if_neg (show ¬ (false = true) by decide)] at H; exact H
       clear H
       have H := H1
       clear H1
       obtain rfl := Option.some.inj H
       have p258 : 0 ≤ (x11_1 : Int) := of_decide_eq_true (by first | (with_reducible assumption) | assumption)
       have q258 : x11_1 < (l0.length : Int) := of_decide_eq_true (by first | (with_reducible assumption) | assumption)
       obtain ⟨ad258, e258, hx258_0⟩ := Kd.at_int HR0.out x11_1 p258 q258
       cases e258
       replace p258 := eq_true p258
       replace q258 := eq_true q258
       go_wp2_with (first | ((with_reducible refine gate_callee (f := 37) rfl ?_); refine goesL_ (some 18) rfl rfl Try.func37 KR rfl #[.int .i64 (rd l0 x11_1), .int .i64 a1, .int .i64 a2] rfl AR ?_; (with_reducible refine (impl_InRange.calls (rd l0 x11_1) a1 a2 false _ A7.out).mono ?_); rintro e w' ⟨rfl, ⟨nd, rfl⟩⟩; refine ⟨_, rfl, ?_⟩))
       go_ret
       exact ⟨by first | rfl | (simp; done) | (simp [*]; done), by repeat (first | exact Drawn0.refl _ | apply Drawn0.step)⟩
     ·rw [if_neg c6] at H
      exact absurd H (by simp)
    ·rw [if_neg c5] at H
     exact absurd H (by simp)
   ·rw [if_neg c4] at H
    have c4b0 : decide (x11_1 < (l0.length : Int)) = false := decide_eq_false c4
    clear c4
    obtain rfl := Option.some.inj H
    go_wp2
    go_ret
    exact ⟨by first | rfl | (simp; done) | (simp [*]; done), by repeat (first | exact Drawn0.refl _ | apply Drawn0.step)⟩

attribute [local go_sem high] eqA41
/-! ### impl_IsResource: function 38 -/
def impl_IsResource.j0 : Nat → Int → Bool → Int → List Int → Int → Int → Int → Option (Bool)
  | 0, _, _, _, _, _, _, _ => none
  | k + 1, x4, x5, x261000, x261001, x261002, x261003, x261004 => if x5 = true then (if (x261001.length : Int) ≤ 6 then ((impl_allIn.f k x261001 0 255).bind fun t261 => (if t261 = true then (some (x261002 == 0 && (x261003 == 0 && (x261004 == 0)))) else (some false))) else (some false)) else (if x4 = 3 then (if (x261001.length : Int) = 0 then ((impl_IsAddress.f x261002 x261003 x261004).bind fun t262 => (some t262)) else (some false)) else (if x4 = 4 then (if (x261001.length : Int) = 0 then (some (x261002 == 0 && (x261003 == 0 && (x261004 == 0)))) else (some false)) else (some false)))
def impl_IsResource.f (k : Nat) (a0_0 : Int) (l0_1 : List Int) (a0_2 : Int) (a0_3 : Int) (a0_4 : Int) : Option (Bool) := if a0_0 = 1 then (impl_IsResource.j0 k a0_0 (a0_0 == 1) a0_0 l0_1 a0_2 a0_3 a0_4) else (impl_IsResource.j0 k a0_0 (a0_0 == 2) a0_0 l0_1 a0_2 a0_3 a0_4)
set_option maxHeartbeats 8000000 in
set_option maxRecDepth 100000 in
theorem impl_IsResource.calls (k : Nat) (a0_0 : Int) (A0_1 : Option Addr) (c0_1 : Nat) (l0_1 : List Int) (a0_2 : Int) (a0_3 : Int) (a0_4 : Int) (r : Bool) (w : World) (hr0_1 : Kd.C (Kd.int .i64) w A0_1 l0_1.length l0_1) (hc0_1 : l0_1.length ≤ c0_1) (h : impl_IsResource.f k a0_0 l0_1 a0_2 a0_3 a0_4 = some r) :
  Calls Try.prog 38 #[.agg #[.int .i64 a0_0, .slice A0_1 l0_1.length c0_1, .int .i64 a0_2, .int .i64 a0_3, .int .i64 a0_4]] w fun e w' => e = .returned (.bool r) ∧ Below w.heap.size w w' := by
 have hu43 := Try.underlying43
 have hu41 := Try.underlying41
 have HR0_1 := Aside0.mk hr0_1
 have HC0_1 := Aside0.mk hc0_1
 clear hr0_1 hc0_1
 have HB := ak (Below.refl w.heap.size w)
 have H : (if a0_0 = 1 then (impl_IsResource.j0 k a0_0 (a0_0 == 1) a0_0 l0_1 a0_2 a0_3 a0_4) else (impl_IsResource.j0 k a0_0 (a0_0 == 2) a0_0 l0_1 a0_2 a0_3 a0_4)) = some r := h
 clear h
 have HC2 := Aside0.mk H
 clear H
 go_enter Try.func38, Try.ntmps38
 go_upto_if 5 with (first | ((with_reducible refine gate_dst (N := 1) rfl ?_); refine bx_ (N := 1) #[.int .i64 a0_0, .slice A0_1 l0_1.length c0_1, .int .i64 a0_2, .int .i64 a0_3, .int .i64 a0_4] 43 ?_; intro gb260 hg w3 hbox hb; have BK260 := ak hbox; have GW260 := gy hg HB; have GE260 := gy hg HB; replace HB := bs HB hb; clear hb hbox hg; obtain ⟨hcz4_0, hcz4_1, hcz4_2, hcz4_3, hcz4_4, hfz4_0, hfz4_1, hfz4_2, hfz4_3, hfz4_4⟩ := bc5 BK260))
 (try simp only [Act.put, List.setIfInBounds_toArray, List.set_cons_zero, List.set_cons_succ])
 go_cut [5] (fun v5 wc => ∃ (kq : Nat) (x5_1 : Bool), v5 = .bool x5_1 ∧ Aside0 (impl_IsResource.j0 kq a0_0 x5_1 a0_0 l0_1 a0_2 a0_3 a0_4 = some r) ∧ Aside0 (kq ≤ k) ∧ Aside0 (wc.heap[gb260]? = some (.cells #[.int .i64 a0_0, (.slice A0_1 l0_1.length c0_1), .int .i64 a0_2, .int .i64 a0_3, .int .i64 a0_4] 43 (0, 0))) ∧ Aside0 (Below w.heap.size w wc))
 case first =>
  have H := HC2.out
  clear HC2
  by_cases c5 : a0_0 = 1
  ·rw [if_pos c5] at H
   have c5b0 : (a0_0 == 1) = true := beq_iff_eq.mpr c5
   have c5b1 : (a0_0 != 1) = false := bne_eq_false_iff_eq.mpr c5
   clear c5
   (first | rw [c5b0] | (simp only [i64_w, i32_w]; rw [c5b0]) | skip)
   have H' := Aside0.mk H
   clear H
   go_wp2
   go_meet
   case rel => exact ⟨_, ((a0_0 == 1)), (by first | rfl | (simp; done) | (simp [*]; done)), H', ⟨by first | omega | exact Nat.le_refl _⟩, ⟨PK BK260⟩, ⟨PB⟩⟩
  ·rw [if_neg c5] at H
   have c5b0 : (a0_0 == 1) = false := beq_eq_false_iff_ne.mpr c5
   have c5b1 : (a0_0 != 1) = true := bne_iff_ne.mpr c5
   (first | rw [c5b0] | (simp only [i64_w, i32_w]; rw [c5b0]) | skip)
   have H' := Aside0.mk H
   clear H
   go_wp2
   go_meet
   case rel => exact ⟨_, ((a0_0 == 2)), (by first | rfl | (simp; done) | (simp [*]; done)), H', ⟨by first | omega | exact Nat.le_refl _⟩, ⟨PK BK260⟩, ⟨PB⟩⟩
 case rest =>
  clear HC2
  (try clear p2); (try clear c3); (try clear c5); (try clear c5b0); (try clear c5b1); (try clear hcz4_0); (try clear hcz4_1); (try clear hcz4_2); (try clear hcz4_3); (try clear hcz4_4); (try clear hfz4_0); (try clear hfz4_1); (try clear hfz4_2); (try clear hfz4_3); (try clear hfz4_4)
  obtain ⟨kq, x5_1, rfl, HA, HJ1, BK260, HB⟩ := hcut
  cases kq with
  | zero => exact absurd HA.out (by simp [impl_IsResource.j0])
  | succ kj1 =>
   have H := HA.out
   clear HA
   simp only [impl_IsResource.j0] at H
   by_cases c6 : x5_1 = true
   ·subst c6
    have H1 : (if (l0_1.length : Int) ≤ 6 then ((impl_allIn.f kj1 l0_1 0 255).bind fun t261 => (if t261 = true then (some (a0_2 == 0 && (a0_3 == 0 && (a0_4 == 0)))) else (some false))) else (some false)) = some r := by rw [if_pos rfl] at H; exact H
    clear H
    have H := H1
    clear H1
    by_cases c7 : (l0_1.length : Int) ≤ 6
    ·rw [if_pos c7] at H
     have c7b0 : decide ((l0_1.length : Int) ≤ 6) = true := decide_eq_true c7
     have c7b1 : decide (l0_1.length ≤ 6) = true := decide_eq_true (by omega)
     clear c7
     replace H := Option.bind_eq_some_iff.mp H
     obtain ⟨t261, A80, H⟩ := H
     replace H : (if t261 = true then (some (a0_2 == 0 && (a0_3 == 0 && (a0_4 == 0)))) else (some false)) = some r := H
     have A8 := Aside0.mk A80
     clear A80
     by_cases c9 : t261 = true
     ·subst c9
      have H1 : (some (a0_2 == 0 && (a0_3 == 0 && (a0_4 == 0)))) = some r := by rw [if_pos rfl] at H; exact H
      clear H
      have H := H1
      clear H1
      obtain rfl := Option.some.inj H
      obtain ⟨hcz10_0, hcz10_1, hcz10_2, hcz10_3, hcz10_4, hfz10_0, hfz10_1, hfz10_2, hfz10_3, hfz10_4⟩ := bc5 BK260
      go_wp2_with (first | (go_at_call 47; (with_reducible refine (impl_allIn.calls kj1 _ _ l0_1 0 255 true _ ?side1 ?side2 A8.out).mono ?_); (case side1 => exact CR (Kd.C_below HR0_1.out HB.out)); (case side2 => exact HC0_1.out); rintro e w' ⟨rfl, ⟨nd, rfl⟩⟩))
      go_ret
      exact ⟨RT, PB⟩
     ·replace c9 := Bool.eq_false_iff.mpr c9
      subst c9
      have H1 : (some false) = some r := by rw [if_neg (show ¬ (false = true) by decide)] at H; exact H
      clear H
      have H := H1
      clear H1
      obtain rfl := Option.some.inj H
      obtain ⟨_, _, _, _, _, _, _, _, _, _⟩ := bc5 BK260
      go_wp2_with (first | (go_at_call 47; (with_reducible refine (impl_allIn.calls kj1 _ _ l0_1 0 255 false _ ?side1 ?side2 A8.out).mono ?_); (case side1 => exact CR (Kd.C_below HR0_1.out HB.out)); (case side2 => exact HC0_1.out); rintro e w' ⟨rfl, ⟨nd, rfl⟩⟩))
      go_ret
      exact ⟨RT, PB⟩
    ·rw [if_neg c7] at H
     have c7b0 : decide ((l0_1.length : Int) ≤ 6) = false := decide_eq_false c7
     have c7b1 : decide (l0_1.length ≤ 6) = false := decide_eq_false (by omega)
     clear c7
     obtain rfl := Option.some.inj H
     obtain ⟨hcz12_0, hcz12_1, hcz12_2, _, _, hfz12_0, hfz12_1, hfz12_2, _, _⟩ := bc5 BK260
     go_wp2
     go_ret
     exact ⟨RT, PB⟩
   ·replace c6 := Bool.eq_false_iff.mpr c6
    subst c6
    have H1 : (if a0_0 = 3 then (if (l0_1.length : Int) = 0 then ((impl_IsAddress.f a0_2 a0_3 a0_4).bind fun t262 => (some t262)) else (some false)) else (if a0_0 = 4 then (if (l0_1.length : Int) = 0 then (some (a0_2 == 0 && (a0_3 == 0 && (a0_4 == 0)))) else (some false)) else (some false))) = some r := by rw [if_neg (show ¬ (false = true) by decide)] at H; exact H
    clear H
    have H := H1
    clear H1
    by_cases c13 : a0_0 = 3
    ·rw [if_pos c13] at H
     have c13b0 : (a0_0 == 3) = true := beq_iff_eq.mpr c13
     have c13b1 : (a0_0 != 3) = false := bne_eq_false_iff_eq.mpr c13
     clear c13
     by_cases c14 : (l0_1.length : Int) = 0
     ·rw [if_pos c14] at H
      have c14b0 : ((l0_1.length : Int) == 0) = true := beq_iff_eq.mpr c14
      have c14b1 : ((l0_1.length : Int) != 0) = false := bne_eq_false_iff_eq.mpr c14
      clear c14
      replace H := Option.bind_eq_some_iff.mp H
      obtain ⟨t262, A150, H⟩ := H
      replace H : (some t262) = some r := H
      have A15 := Aside0.mk A150
      clear A150
      obtain rfl := Option.some.inj H
      obtain ⟨_, _, _, _, _, _, _, _, _, _⟩ := bc5 BK260
      go_wp2_with (first | (go_at_call 36; (with_reducible refine (impl_IsAddress.calls a0_2 a0_3 a0_4 t262 _ A15.out).mono ?_); rintro e w17 ⟨rfl, hb⟩; replace BK260 := kf BK260 hb; replace HB := bs HB hb; (try clear hb); (try clear hb2); (try clear hk); (try clear hi)))
      go_ret
      exact ⟨RT, PB⟩
     ·rw [if_neg c14] at H
      have c14b0 : ((l0_1.length : Int) == 0) = false := beq_eq_false_iff_ne.mpr c14
      have c14b1 : ((l0_1.length : Int) != 0) = true := bne_iff_ne.mpr c14
      have c14b2 : ¬ (l0_1 = []) := fun h_ => c14 (by rw [h_]; rfl)
      obtain rfl := Option.some.inj H
      obtain ⟨_, _, _, _, _, _, _, _, _, _⟩ := bc5 BK260
      go_wp2
      go_ret
      exact ⟨RT, PB⟩
    ·rw [if_neg c13] at H
     have c13b0 : (a0_0 == 3) = false := beq_eq_false_iff_ne.mpr c13
     have c13b1 : (a0_0 != 3) = true := bne_iff_ne.mpr c13
     by_cases c19 : a0_0 = 4
     ·rw [if_pos c19] at H
      have c19b0 : (a0_0 == 4) = true := beq_iff_eq.mpr c19
      have c19b1 : (a0_0 != 4) = false := bne_eq_false_iff_eq.mpr c19
      clear c19
      by_cases c20 : (l0_1.length : Int) = 0
      ·rw [if_pos c20] at H
       have c20b0 : ((l0_1.length : Int) == 0) = true := beq_iff_eq.mpr c20
       have c20b1 : ((l0_1.length : Int) != 0) = false := bne_eq_false_iff_eq.mpr c20
       clear c20
       obtain rfl := Option.some.inj H
       obtain ⟨_, _, _, _, _, _, _, _, _, _⟩ := bc5 BK260
       go_wp2
       go_ret
       exact ⟨RT, PB⟩
      ·rw [if_neg c20] at H
       have c20b0 : ((l0_1.length : Int) == 0) = false := beq_eq_false_iff_ne.mpr c20
       have c20b1 : ((l0_1.length : Int) != 0) = true := bne_iff_ne.mpr c20
       have c20b2 : ¬ (l0_1 = []) := fun h_ => c20 (by rw [h_]; rfl)
       obtain rfl := Option.some.inj H
       obtain ⟨_, _, _, _, _, _, _, _, _, _⟩ := bc5 BK260
       go_wp2
       go_ret
       exact ⟨RT, PB⟩
     ·rw [if_neg c19] at H
      have c19b0 : (a0_0 == 4) = false := beq_eq_false_iff_ne.mpr c19
      have c19b1 : (a0_0 != 4) = true := bne_iff_ne.mpr c19
      obtain rfl := Option.some.inj H
      go_wp2
      go_ret
      exact ⟨RT, PB⟩

/-! ### impl_AreCaptures_lit1: function 35 -/
def impl_AreCaptures_lit1.f (k : Nat) (a0_0 : Int) (a0_1 : Int) (a0_2 : Int) (a0_3 : Int) (a0_4 : Int) (l0_5 : List Int) (a0_6 : Int) (a0_7 : Int) (a0_8 : Int) : Option (Bool) := (impl_IsAddress.f a0_0 a0_1 a0_2).bind fun t264 => (if t264 = true then ((impl_InRange.f a0_3 0 2000).bind fun t265 => (if t265 = true then ((impl_IsResource.f k a0_4 l0_5 a0_6 a0_7 a0_8).bind fun t266 => (some (!t266))) else (some true))) else (some true))
set_option maxHeartbeats 8000000 in
set_option maxRecDepth 100000 in
theorem impl_AreCaptures_lit1.calls (k : Nat) (a0_0 : Int) (a0_1 : Int) (a0_2 : Int) (a0_3 : Int) (a0_4 : Int) (A0_5 : Option Addr) (c0_5 : Nat) (l0_5 : List Int) (a0_6 : Int) (a0_7 : Int) (a0_8 : Int) (r : Bool) (w : World) (hr0_5 : Kd.C (Kd.int .i64) w A0_5 l0_5.length l0_5) (hc0_5 : l0_5.length ≤ c0_5) (h : impl_AreCaptures_lit1.f k a0_0 a0_1 a0_2 a0_3 a0_4 l0_5 a0_6 a0_7 a0_8 = some r) :
  Calls Try.prog 35 #[.agg #[.int .i64 a0_0, .int .i64 a0_1, .int .i64 a0_2, .int .i64 a0_3, .int .i64 a0_4, .slice A0_5 l0_5.length c0_5, .int .i64 a0_6, .int .i64 a0_7, .int .i64 a0_8]] w fun e w' => e = .returned (.bool r) ∧ Below w.heap.size w w' := by
 have hu45 := Try.underlying45
 have hu41 := Try.underlying41
 have hu43 := Try.underlying43
 have HR0_5 := Aside0.mk hr0_5
 have HC0_5 := Aside0.mk hc0_5
 clear hr0_5 hc0_5
 have HB := ak (Below.refl w.heap.size w)
 have H : ((impl_IsAddress.f a0_0 a0_1 a0_2).bind fun t264 => (if t264 = true then ((impl_InRange.f a0_3 0 2000).bind fun t265 => (if t265 = true then ((impl_IsResource.f k a0_4 l0_5 a0_6 a0_7 a0_8).bind fun t266 => (some (!t266))) else (some true))) else (some true))) = some r := h
 clear h
 replace H := Option.bind_eq_some_iff.mp H
 obtain ⟨t264, A20, H⟩ := H
 replace H : (if t264 = true then ((impl_InRange.f a0_3 0 2000).bind fun t265 => (if t265 = true then ((impl_IsResource.f k a0_4 l0_5 a0_6 a0_7 a0_8).bind fun t266 => (some (!t266))) else (some true))) else (some true)) = some r := H
 have A2 := Aside0.mk A20
 clear A20
 by_cases c3 : t264 = true
 ·subst c3
  have H1 : ((impl_InRange.f a0_3 0 2000).bind fun t265 => (if t265 = true then ((impl_IsResource.f k a0_4 l0_5 a0_6 a0_7 a0_8).bind fun t266 => (some (!t266))) else (some true))) = some r := by rw [if_pos rfl] at H; exact H
  clear H
  have H := H1
  clear H1
  replace H := Option.bind_eq_some_iff.mp H
  obtain ⟨t265, A40, H⟩ := H
  replace H : (if t265 = true then ((impl_IsResource.f k a0_4 l0_5 a0_6 a0_7 a0_8).bind fun t266 => (some (!t266))) else (some true)) = some r := H
  have A4 := Aside0.mk A40
  clear A40
  by_cases c5 : t265 = true
  ·subst c5
   have H1 : ((impl_IsResource.f k a0_4 l0_5 a0_6 a0_7 a0_8).bind fun t266 => (some (!t266))) = some r := by rw [if_pos rfl] at H; exact H
   clear H
   have H := H1
   clear H1
   replace H := Option.bind_eq_some_iff.mp H
   obtain ⟨t266, A60, H⟩ := H
   replace H : (some (!t266)) = some r := H
   have A6 := Aside0.mk A60
   clear A60
   obtain rfl := Option.some.inj H
   go_enter Try.func35, Try.ntmps35
   go_wp2_with (first | ((with_reducible refine gate_dst (N := 1) rfl ?_); refine bx_ (N := 1) #[.int .i64 a0_0, .int .i64 a0_1, .int .i64 a0_2, .int .i64 a0_3, .int .i64 a0_4, .slice A0_5 l0_5.length c0_5, .int .i64 a0_6, .int .i64 a0_7, .int .i64 a0_8] 45 ?_; intro gb263 hg w7 hbox hb; have BK263 := ak hbox; have GW263 := gy hg HB; have GE263 := gy hg HB; replace HB := bs HB hb; clear hb hbox hg; obtain ⟨hcz8_0, hcz8_1, hcz8_2, _, _, _, _, _, _, hfz8_0, hfz8_1, hfz8_2, _, _, _, _, _, _⟩ := bc9 BK263) | ((with_reducible refine gate_callee (f := 36) rfl ?_); refine goesL_ (some 5) rfl rfl Try.func36 KR rfl #[.agg #[.int .i64 a0_0, .int .i64 a0_1, .int .i64 a0_2]] rfl AR ?_; (with_reducible refine (impl_IsAddress.calls a0_0 a0_1 a0_2 true _ A2.out).mono ?_); rintro e w9 ⟨rfl, hb⟩; refine ⟨_, rfl, ?_⟩; replace BK263 := kf BK263 hb; replace HB := bs HB hb; (try clear hb); (try clear hb2); (try clear hk); (try clear hi); obtain ⟨hcz10_0, hcz10_1, hcz10_2, hcz10_3, hcz10_4, _, _, _, _, hfz10_0, hfz10_1, hfz10_2, hfz10_3, hfz10_4, _, _, _, _⟩ := bc9 BK263) | (go_at_call 37; (with_reducible refine (impl_InRange.calls a0_3 0 2000 true _ A4.out).mono ?_); rintro e w' ⟨rfl, ⟨nd, rfl⟩⟩) | (go_at_call 38; (with_reducible refine (impl_IsResource.calls k a0_4 _ _ l0_5 a0_6 a0_7 a0_8 t266 _ ?side1 ?side2 A6.out).mono ?_); (case side1 => repeat (first | exact (Kd.C_below HR0_5.out PB) | (with_reducible refine Kd.C_alloc ?_ _) | (with_reducible refine Kd.C_drewN ?_ _) | (with_reducible refine Kd.C_drew ?_))); (case side2 => exact HC0_5.out); rintro e w11 ⟨rfl, hb⟩; replace BK263 := kf BK263 hb; replace HB := bs HB hb; (try clear hb); (try clear hb2); (try clear hk); (try clear hi)))
   go_ret
   exact ⟨RT, PB⟩
  ·replace c5 := Bool.eq_false_iff.mpr c5
   subst c5
   have H1 : (some true) = some r := by rw [if_neg (show ¬ (false = true) by decide)] at H; exact H
   clear H
   have H := H1
   clear H1
   obtain rfl := Option.some.inj H
   go_enter Try.func35, Try.ntmps35
   go_wp2_with (first | ((with_reducible refine gate_dst (N := 1) rfl ?_); refine bx_ (N := 1) #[.int .i64 a0_0, .int .i64 a0_1, .int .i64 a0_2, .int .i64 a0_3, .int .i64 a0_4, .slice A0_5 l0_5.length c0_5, .int .i64 a0_6, .int .i64 a0_7, .int .i64 a0_8] 45 ?_; intro gb263 hg w12 hbox hb; have BK263 := ak hbox; have GW263 := gy hg HB; have GE263 := gy hg HB; replace HB := bs HB hb; clear hb hbox hg; obtain ⟨_, _, _, _, _, _, _, _, _, _, _, _, _, _, _, _, _, _⟩ := bc9 BK263) | ((with_reducible refine gate_callee (f := 36) rfl ?_); refine goesL_ (some 5) rfl rfl Try.func36 KR rfl #[.agg #[.int .i64 a0_0, .int .i64 a0_1, .int .i64 a0_2]] rfl AR ?_; (with_reducible refine (impl_IsAddress.calls a0_0 a0_1 a0_2 true _ A2.out).mono ?_); rintro e w14 ⟨rfl, hb⟩; refine ⟨_, rfl, ?_⟩; replace BK263 := kf BK263 hb; replace HB := bs HB hb; (try clear hb); (try clear hb2); (try clear hk); (try clear hi); obtain ⟨_, _, _, _, _, _, _, _, _, _, _, _, _, _, _, _, _, _⟩ := bc9 BK263) | (go_at_call 37; (with_reducible refine (impl_InRange.calls a0_3 0 2000 false _ A4.out).mono ?_); rintro e w' ⟨rfl, ⟨nd, rfl⟩⟩))
   go_ret
   exact ⟨RT, PB⟩
 ·replace c3 := Bool.eq_false_iff.mpr c3
  subst c3
  have H1 : (some true) = some r := by rw [if_neg (show ¬ (false = true) by decide)] at H; exact H
  clear H
  have H := H1
  clear H1
  obtain rfl := Option.some.inj H
  go_enter Try.func35, Try.ntmps35
  go_wp2_with (first | ((with_reducible refine gate_dst (N := 1) rfl ?_); refine bx_ (N := 1) #[.int .i64 a0_0, .int .i64 a0_1, .int .i64 a0_2, .int .i64 a0_3, .int .i64 a0_4, .slice A0_5 l0_5.length c0_5, .int .i64 a0_6, .int .i64 a0_7, .int .i64 a0_8] 45 ?_; intro gb263 hg w16 hbox hb; have BK263 := ak hbox; have GW263 := gy hg HB; have GE263 := gy hg HB; replace HB := bs HB hb; clear hb hbox hg; obtain ⟨_, _, _, _, _, _, _, _, _, _, _, _, _, _, _, _, _, _⟩ := bc9 BK263) | ((with_reducible refine gate_callee (f := 36) rfl ?_); refine goesL_ (some 5) rfl rfl Try.func36 KR rfl #[.agg #[.int .i64 a0_0, .int .i64 a0_1, .int .i64 a0_2]] rfl AR ?_; (with_reducible refine (impl_IsAddress.calls a0_0 a0_1 a0_2 false _ A2.out).mono ?_); rintro e w18 ⟨rfl, hb⟩; refine ⟨_, rfl, ?_⟩; replace BK263 := kf BK263 hb; replace HB := bs HB hb; (try clear hb); (try clear hb2); (try clear hk); (try clear hi)))
  go_ret
  exact ⟨RT, PB⟩

/-! ### slices_IndexFunc_35: function 45 -/
def slices_IndexFunc_35.l0 : Nat → List (S45) → Int → Int → Option (Int)
  | 0, _, _, _ => none
  | k + 1, x0, x7, x8 => if x8 < x7 then (if 0 ≤ x8 then (if x8 < (x0.length : Int) then ((impl_AreCaptures_lit1.f k ((rd_T45 x0 x8).f0.f0) ((rd_T45 x0 x8).f0.f1) ((rd_T45 x0 x8).f0.f2) ((rd_T45 x0 x8).f1) ((rd_T45 x0 x8).f2.f0) ((rd_T45 x0 x8).f2.f1) ((rd_T45 x0 x8).f2.f2.f0) ((rd_T45 x0 x8).f2.f2.f1) ((rd_T45 x0 x8).f2.f2.f2)).bind fun t268 => (if t268 = true then (some x8) else (slices_IndexFunc_35.l0 k x0 x7 (wrap64 (x8 + 1))))) else (none)) else (none)) else (some (-1))
def slices_IndexFunc_35.f (k : Nat) (l0 : List (S45)) (a1 : Int) : Option (Int) := slices_IndexFunc_35.l0 k l0 (l0.length : Int) 0
set_option maxHeartbeats 8000000 in
set_option maxRecDepth 100000 in
theorem slices_IndexFunc_35.calls (k : Nat) (A0 : Option Addr) (c0 : Nat) (l0 : List (S45)) (a1 : Int) (r : Int) (w : World) (hr0 : Kd.C k45 w A0 l0.length l0) (hc0 : l0.length ≤ c0) (h : slices_IndexFunc_35.f k l0 a1 = some r) :
  Calls Try.prog 45 #[.slice A0 l0.length c0, .func (.func 35) #[] #[]] w fun e w' => e = .returned (.int .i64 r) ∧ Below w.heap.size w w' := by
 have hu45 := Try.underlying45
 have HR0 := Aside0.mk hr0
 have HC0 := Aside0.mk hc0
 clear hr0 hc0
 have HB := ak (Below.refl w.heap.size w)
 have H : (slices_IndexFunc_35.l0 k l0 (l0.length : Int) 0) = some r := h
 clear h
 have H' := Aside0.mk H
 clear H
 go_enter Try.func45, Try.ntmps45
 go_wp2
 go_loopg [8] k (fun kq v8 w' => ∃ (x8_1 : Int), v8 = .int .i64 x8_1 ∧ Aside0 (slices_IndexFunc_35.l0 kq l0 (l0.length : Int) x8_1 = some r) ∧ Aside0 (kq ≤ k) ∧ Aside0 (Below w.heap.size w w'))
 case atStart => exact ⟨(0), (by first | rfl | (simp; done) | (simp [*]; done)), H', ⟨Nat.le_refl _⟩, ⟨PB⟩⟩
 case round =>
  clear H'
  try clear p2
  obtain ⟨x8_1, rfl, HA, HK1, HB⟩ := hrel
  cases gk with
  | zero => exact absurd HA.out (by simp [slices_IndexFunc_35.l0])
  | succ k1 =>
   have H := HA.out
   clear HA
   simp only [slices_IndexFunc_35.l0] at H
   by_cases c3 : x8_1 < (l0.length : Int)
   ·rw [if_pos c3] at H
    have c3b0 : decide (x8_1 < (l0.length : Int)) = true := decide_eq_true c3
    clear c3
    by_cases c4 : 0 ≤ x8_1
    ·rw [if_pos c4] at H
     have c4b0 : decide (0 ≤ x8_1) = true := decide_eq_true c4
     clear c4
     by_cases c5 : x8_1 < (l0.length : Int)
     ·rw [if_pos c5] at H
      have c5b0 : decide (x8_1 < (l0.length : Int)) = true := decide_eq_true c5
      clear c5
      replace H := Option.bind_eq_some_iff.mp H
      obtain ⟨t268, A60, H⟩ := H
      replace H : (if t268 = true then (some x8_1) else (slices_IndexFunc_35.l0 k1 l0 (l0.length : Int) (wrap64 (x8_1 + 1)))) = some r := H
      have A6 := Aside0.mk A60
      clear A60
      by_cases c7 : t268 = true
      ·subst c7
       have H1 : (some x8_1) = some r := by rw [if_pos rfl] at H; exact H
       clear H
       have H := H1
       clear H1
       obtain rfl := Option.some.inj H
       have p267 : 0 ≤ (x8_1 : Int) := of_decide_eq_true (by first | (with_reducible assumption) | assumption)
       have q267 : x8_1 < (l0.length : Int) := of_decide_eq_true (by first | (with_reducible assumption) | assumption)
       obtain ⟨ad267, A267_5, c267_5, e267, hx267_0, hx267_1, hx267_2, hx267_3, hx267_4, hx267_5, hx267_6, hx267_7, hx267_8, hl267_5, hi267_5⟩ := at_T45 HR0.out x8_1 p267 q267
       cases e267
       replace hx267_0 := hx_ HB hx267_0
       replace hx267_1 := hx_ HB hx267_1
       replace hx267_2 := hx_ HB hx267_2
       replace hx267_3 := hx_ HB hx267_3
       replace hx267_4 := hx_ HB hx267_4
       replace hx267_5 := hx_ HB hx267_5
       replace hx267_6 := hx_ HB hx267_6
       replace hx267_7 := hx_ HB hx267_7
       replace hx267_8 := hx_ HB hx267_8
       have HR267_5 := Aside0.mk hi267_5
       have HC267_5 := Aside0.mk hl267_5
       clear hi267_5 hl267_5
       replace p267 := eq_true p267
       replace q267 := eq_true q267
       go_wp2_with (first | ((with_reducible refine gate_calleeV (n := 11) rfl ?_); refine goesLV_ (some 16) rfl rfl Try.func35 KR rfl #[.agg #[.int .i64 ((rd_T45 l0 x8_1).f0.f0), .int .i64 ((rd_T45 l0 x8_1).f0.f1), .int .i64 ((rd_T45 l0 x8_1).f0.f2), .int .i64 ((rd_T45 l0 x8_1).f1), .int .i64 ((rd_T45 l0 x8_1).f2.f0), .slice A267_5 ((rd_T45 l0 x8_1).f2.f1).length c267_5, .int .i64 ((rd_T45 l0 x8_1).f2.f2.f0), .int .i64 ((rd_T45 l0 x8_1).f2.f2.f1), .int .i64 ((rd_T45 l0 x8_1).f2.f2.f2)]] rfl AR ?_; (with_reducible refine (impl_AreCaptures_lit1.calls k1 ((rd_T45 l0 x8_1).f0.f0) ((rd_T45 l0 x8_1).f0.f1) ((rd_T45 l0 x8_1).f0.f2) ((rd_T45 l0 x8_1).f1) ((rd_T45 l0 x8_1).f2.f0) _ _ ((rd_T45 l0 x8_1).f2.f1) ((rd_T45 l0 x8_1).f2.f2.f0) ((rd_T45 l0 x8_1).f2.f2.f1) ((rd_T45 l0 x8_1).f2.f2.f2) true _ ?side1 ?side2 A6.out).mono ?_); (case side1 => exact CR (Kd.C_below HR267_5.out HB.out)); (case side2 => exact HC267_5.out); rintro e w8 ⟨rfl, hb⟩; refine ⟨_, rfl, ?_⟩; replace HB := bs HB hb; (try clear hb); (try clear hb2); (try clear hk); (try clear hi)))
       go_ret
       exact ⟨RT, PB⟩
      ·replace c7 := Bool.eq_false_iff.mpr c7
       subst c7
       have H1 : (slices_IndexFunc_35.l0 k1 l0 (l0.length : Int) (wrap64 (x8_1 + 1))) = some r := by rw [if_neg (show ¬ (false = true) by decide)] at H; exact H
       clear H
       have H := H1
       clear H1
       have H' := Aside0.mk H
       clear H
       have p267 : 0 ≤ (x8_1 : Int) := of_decide_eq_true (by first | (with_reducible assumption) | assumption)
       have q267 : x8_1 < (l0.length : Int) := of_decide_eq_true (by first | (with_reducible assumption) | assumption)
       obtain ⟨ad267, A267_5, c267_5, e267, hx267_0, hx267_1, hx267_2, hx267_3, hx267_4, hx267_5, hx267_6, hx267_7, hx267_8, hl267_5, hi267_5⟩ := at_T45 HR0.out x8_1 p267 q267
       cases e267
       replace hx267_0 := hx_ HB hx267_0
       replace hx267_1 := hx_ HB hx267_1
       replace hx267_2 := hx_ HB hx267_2
       replace hx267_3 := hx_ HB hx267_3
       replace hx267_4 := hx_ HB hx267_4
       replace hx267_5 := hx_ HB hx267_5
       replace hx267_6 := hx_ HB hx267_6
       replace hx267_7 := hx_ HB hx267_7
       replace hx267_8 := hx_ HB hx267_8
       have HR267_5 := Aside0.mk hi267_5
       have HC267_5 := Aside0.mk hl267_5
       clear hi267_5 hl267_5
       replace p267 := eq_true p267
       replace q267 := eq_true q267
       go_wp2_with (first | ((with_reducible refine gate_calleeV (n := 11) rfl ?_); refine goesLV_ (some 16) rfl rfl Try.func35 KR rfl #[.agg #[.int .i64 ((rd_T45 l0 x8_1).f0.f0), .int .i64 ((rd_T45 l0 x8_1).f0.f1), .int .i64 ((rd_T45 l0 x8_1).f0.f2), .int .i64 ((rd_T45 l0 x8_1).f1), .int .i64 ((rd_T45 l0 x8_1).f2.f0), .slice A267_5 ((rd_T45 l0 x8_1).f2.f1).length c267_5, .int .i64 ((rd_T45 l0 x8_1).f2.f2.f0), .int .i64 ((rd_T45 l0 x8_1).f2.f2.f1), .int .i64 ((rd_T45 l0 x8_1).f2.f2.f2)]] rfl AR ?_; (with_reducible refine (impl_AreCaptures_lit1.calls k1 ((rd_T45 l0 x8_1).f0.f0) ((rd_T45 l0 x8_1).f0.f1) ((rd_T45 l0 x8_1).f0.f2) ((rd_T45 l0 x8_1).f1) ((rd_T45 l0 x8_1).f2.f0) _ _ ((rd_T45 l0 x8_1).f2.f1) ((rd_T45 l0 x8_1).f2.f2.f0) ((rd_T45 l0 x8_1).f2.f2.f1) ((rd_T45 l0 x8_1).f2.f2.f2) false _ ?side1 ?side2 A6.out).mono ?_); (case side1 => exact CR (Kd.C_below HR267_5.out HB.out)); (case side2 => exact HC267_5.out); rintro e w9 ⟨rfl, hb⟩; refine ⟨_, rfl, ?_⟩; replace HB := bs HB hb; (try clear hb); (try clear hb2); (try clear hk); (try clear hi)))
       go_roundg k1
       case measure => have := HK1.out; omega
       case rel => exact ⟨(wrap64 (x8_1 + 1)), (by first | rfl | (simp; done) | (simp [*]; done)), H', ⟨by have := HK1.out; omega⟩, ⟨PB⟩⟩
     ·rw [if_neg c5] at H
      exact absurd H (by simp)
    ·rw [if_neg c4] at H
     exact absurd H (by simp)
   ·rw [if_neg c3] at H
    have c3b0 : decide (x8_1 < (l0.length : Int)) = false := decide_eq_false c3
    clear c3
    obtain rfl := Option.some.inj H
    go_wp2
    go_ret
    exact ⟨RT, PB⟩

/-! ### slices_ContainsFunc_35: function 31 -/
def slices_ContainsFunc_35.f (k : Nat) (l0 : List (S45)) (a1 : Int) : Option (Bool) := (slices_IndexFunc_35.f k l0 a1).bind fun t269 => (some (decide (t269 ≥ 0)))
set_option maxHeartbeats 8000000 in
set_option maxRecDepth 100000 in
theorem slices_ContainsFunc_35.calls (k : Nat) (A0 : Option Addr) (c0 : Nat) (l0 : List (S45)) (a1 : Int) (r : Bool) (w : World) (hr0 : Kd.C k45 w A0 l0.length l0) (hc0 : l0.length ≤ c0) (h : slices_ContainsFunc_35.f k l0 a1 = some r) :
  Calls Try.prog 31 #[.slice A0 l0.length c0, .func (.func 35) #[] #[]] w fun e w' => e = .returned (.bool r) ∧ Below w.heap.size w w' := by
 have HR0 := Aside0.mk hr0
 have HC0 := Aside0.mk hc0
 clear hr0 hc0
 have HB := ak (Below.refl w.heap.size w)
 have H : ((slices_IndexFunc_35.f k l0 a1).bind fun t269 => (some (decide (t269 ≥ 0)))) = some r := h
 clear h
 replace H := Option.bind_eq_some_iff.mp H
 obtain ⟨t269, A30, H⟩ := H
 replace H : (some (decide (t269 ≥ 0))) = some r := H
 have A3 := Aside0.mk A30
 clear A30
 obtain rfl := Option.some.inj H
 go_enter Try.func31, Try.ntmps31
 go_wp2_with (first | ((with_reducible refine gate_callee (f := 45) rfl ?_); refine goesL_ (some 7) rfl rfl Try.func45 KR rfl #[.slice A0 l0.length c0, .func (.func 35) #[] #[]] rfl AR ?_; (with_reducible refine (slices_IndexFunc_35.calls k _ _ l0 a1 t269 _ ?side1 ?side2 A3.out).mono ?_); (case side1 => exact CR (HR0.out)); (case side2 => exact HC0.out); rintro e w4 ⟨rfl, hb⟩; refine ⟨_, rfl, ?_⟩; replace HB := bs HB hb; (try clear hb); (try clear hb2); (try clear hk); (try clear hi)))
 go_ret
 exact ⟨RT, PB⟩

/-! ### impl_AreCaptures: function 19 -/
def impl_AreCaptures.f (k : Nat) (l0 : List (S45)) : Option (Bool) := if (l0.length : Int) ≤ 20 then ((slices_ContainsFunc_35.f k l0 90000035).bind fun t270 => (some (!t270))) else (some false)
set_option maxHeartbeats 8000000 in
set_option maxRecDepth 100000 in
theorem impl_AreCaptures.calls (k : Nat) (A0 : Option Addr) (c0 : Nat) (l0 : List (S45)) (r : Bool) (w : World) (hr0 : Kd.C k45 w A0 l0.length l0) (hc0 : l0.length ≤ c0) (h : impl_AreCaptures.f k l0 = some r) :
  Calls Try.prog 19 #[.slice A0 l0.length c0] w fun e w' => e = .returned (.bool r) ∧ Below w.heap.size w w' := by
 have HR0 := Aside0.mk hr0
 have HC0 := Aside0.mk hc0
 clear hr0 hc0
 have HB := ak (Below.refl w.heap.size w)
 have H : (if (l0.length : Int) ≤ 20 then ((slices_ContainsFunc_35.f k l0 90000035).bind fun t270 => (some (!t270))) else (some false)) = some r := h
 clear h
 by_cases c2 : (l0.length : Int) ≤ 20
 ·rw [if_pos c2] at H
  have c2b0 : decide ((l0.length : Int) ≤ 20) = true := decide_eq_true c2
  have c2b1 : decide (l0.length ≤ 20) = true := decide_eq_true (by omega)
  clear c2
  replace H := Option.bind_eq_some_iff.mp H
  obtain ⟨t270, A30, H⟩ := H
  replace H : (some (!t270)) = some r := H
  have A3 := Aside0.mk A30
  clear A30
  obtain rfl := Option.some.inj H
  go_enter Try.func19, Try.ntmps19
  go_wp2_with (first | (go_at_call 31; (with_reducible refine (slices_ContainsFunc_35.calls k _ _ l0 90000035 t270 _ ?side1 ?side2 A3.out).mono ?_); (case side1 => exact CR (HR0.out)); (case side2 => exact HC0.out); rintro e w4 ⟨rfl, hb⟩; replace HB := bs HB hb; (try clear hb); (try clear hb2); (try clear hk); (try clear hi)))
  go_ret
  exact ⟨RT, PB⟩
 ·rw [if_neg c2] at H
  have c2b0 : decide ((l0.length : Int) ≤ 20) = false := decide_eq_false c2
  have c2b1 : decide (l0.length ≤ 20) = false := decide_eq_false (by omega)
  clear c2
  obtain rfl := Option.some.inj H
  go_enter Try.func19, Try.ntmps19
  go_wp2
  go_ret
  exact ⟨RT, PB⟩

end Go.Proofs.Ytmcfdpodoebokaa.MFnExactAddCaptures
