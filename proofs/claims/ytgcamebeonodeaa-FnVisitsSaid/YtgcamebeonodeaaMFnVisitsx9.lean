-- Written by a program of this session out of the translation's own print. Not trusted: Lean checks it.
import Derived.Test.YtgcamebeonodeaaShr2
import Derived.Test.YtgcamebeonodeaaMFnVisitsx0
import Derived.Test.YtgcamebeonodeaaMFnVisitsx1
import Derived.Test.YtgcamebeonodeaaMFnVisitsx8
namespace Go.Proofs.Ytgcamebeonodeaa.MFnVisits
open Go.RowKit Go.Proofs.YtgcamebeonodeaaW.PrintWords Go.Proofs.YtgcamebeonodeaaW.PrintLast Go.Proofs.YtgcamebeonodeaaW.PrintMore
attribute [local go_sem] max2_int min2_int max_two min_two max_three min_three max_four min_four   -- for this text's walks alone
set_option linter.unusedVariables false
set_option linter.unusedSimpArgs false

attribute [local go_sem high] eqA26
/-! ### spec_IsAddress: function 108 -/
def spec_IsAddress.f (a0_0 : Int) (a0_1 : Int) (a0_2 : Int) : Option (Bool) := (spec_l1In.f a0_0 1 9).bind fun t508 => (if t508 = true then ((spec_l1In.f a0_1 0 99).bind fun t509 => (if t509 = true then ((spec_l1In.f a0_2 0 99).bind fun t510 => (some t510)) else (some false))) else (some false))
set_option maxHeartbeats 8000000 in
set_option maxRecDepth 100000 in
theorem spec_IsAddress.calls (a0_0 : Int) (a0_1 : Int) (a0_2 : Int) (r : Bool) (w : World) (h : spec_IsAddress.f a0_0 a0_1 a0_2 = some r) :
  Calls Try.prog 108 #[.agg #[.int .i64 a0_0, .int .i64 a0_1, .int .i64 a0_2]] w fun e w' => e = .returned (.bool r) ∧ Below w.heap.size w w' := by
 have hu26 := Try.underlying26
 have HB := ak (Below.refl w.heap.size w)
 have H : ((spec_l1In.f a0_0 1 9).bind fun t508 => (if t508 = true then ((spec_l1In.f a0_1 0 99).bind fun t509 => (if t509 = true then ((spec_l1In.f a0_2 0 99).bind fun t510 => (some t510)) else (some false))) else (some false))) = some r := h
 clear h
 replace H := Option.bind_eq_some_iff.mp H
 obtain ⟨t508, A20, H⟩ := H
 replace H : (if t508 = true then ((spec_l1In.f a0_1 0 99).bind fun t509 => (if t509 = true then ((spec_l1In.f a0_2 0 99).bind fun t510 => (some t510)) else (some false))) else (some false)) = some r := H
 have A2 := Aside0.mk A20
 clear A20
 by_cases c3 : t508 = true
 ·subst c3
  have H1 : ((spec_l1In.f a0_1 0 99).bind fun t509 => (if t509 = true then ((spec_l1In.f a0_2 0 99).bind fun t510 => (some t510)) else (some false))) = some r := by rw [if_pos rfl] at H; exact H
  clear H
  have H := H1
  clear H1
  replace H := Option.bind_eq_some_iff.mp H
  obtain ⟨t509, A40, H⟩ := H
  replace H : (if t509 = true then ((spec_l1In.f a0_2 0 99).bind fun t510 => (some t510)) else (some false)) = some r := H
  have A4 := Aside0.mk A40
  clear A40
  by_cases c5 : t509 = true
  ·subst c5
   have H1 : ((spec_l1In.f a0_2 0 99).bind fun t510 => (some t510)) = some r := by rw [if_pos rfl] at H; exact H
   clear H
   have H := H1
   clear H1
   replace H := Option.bind_eq_some_iff.mp H
   obtain ⟨t510, A60, H⟩ := H
   replace H : (some t510) = some r := H
   have A6 := Aside0.mk A60
   clear A60
   obtain rfl := Option.some.inj H
   go_enter Try.func108, Try.ntmps108
   go_wp2_with (first | ((with_reducible refine gate_dst (N := 1) rfl ?_); refine bx_ (N := 1) #[.int .i64 a0_0, .int .i64 a0_1, .int .i64 a0_2] 26 ?_; intro gb507 hg w7 hbox hb; have BK507 := ak hbox; have GW507 := gy hg HB; have GE507 := gy hg HB; replace HB := bs HB hb; clear hb hbox hg; obtain ⟨hcz8_0, hcz8_1, hcz8_2, hfz8_0, hfz8_1, hfz8_2⟩ := bc3 BK507) | ((with_reducible refine gate_callee (f := 91) rfl ?_); refine goesL_ (some 5) rfl rfl Try.func91 KR rfl #[.int .i64 a0_0, .int .i64 1, .int .i64 9] rfl AR ?_; (with_reducible refine (spec_l1In.calls a0_0 1 9 true _ A2.out).mono ?_); rintro e w' ⟨rfl, ⟨nd, rfl⟩⟩; refine ⟨_, rfl, ?_⟩) | (go_at_call 91; (with_reducible refine (spec_l1In.calls a0_1 0 99 true _ A4.out).mono ?_); rintro e w' ⟨rfl, ⟨nd, rfl⟩⟩) | (go_at_call 91; (with_reducible refine (spec_l1In.calls a0_2 0 99 t510 _ A6.out).mono ?_); rintro e w' ⟨rfl, ⟨nd, rfl⟩⟩))
   go_ret
   exact ⟨RT, PB⟩
  ·replace c5 := Bool.eq_false_iff.mpr c5
   subst c5
   have H1 : (some false) = some r := by rw [if_neg (show ¬ (false = true) by decide)] at H; exact H
   clear H
   have H := H1
   clear H1
   obtain rfl := Option.some.inj H
   go_enter Try.func108, Try.ntmps108
   go_wp2_with (first | ((with_reducible refine gate_dst (N := 1) rfl ?_); refine bx_ (N := 1) #[.int .i64 a0_0, .int .i64 a0_1, .int .i64 a0_2] 26 ?_; intro gb507 hg w9 hbox hb; have BK507 := ak hbox; have GW507 := gy hg HB; have GE507 := gy hg HB; replace HB := bs HB hb; clear hb hbox hg; obtain ⟨hcz10_0, hcz10_1, hcz10_2, hfz10_0, hfz10_1, hfz10_2⟩ := bc3 BK507) | ((with_reducible refine gate_callee (f := 91) rfl ?_); refine goesL_ (some 5) rfl rfl Try.func91 KR rfl #[.int .i64 a0_0, .int .i64 1, .int .i64 9] rfl AR ?_; (with_reducible refine (spec_l1In.calls a0_0 1 9 true _ A2.out).mono ?_); rintro e w' ⟨rfl, ⟨nd, rfl⟩⟩; refine ⟨_, rfl, ?_⟩) | (go_at_call 91; (with_reducible refine (spec_l1In.calls a0_1 0 99 false _ A4.out).mono ?_); rintro e w' ⟨rfl, ⟨nd, rfl⟩⟩))
   go_ret
   exact ⟨RT, PB⟩
 ·replace c3 := Bool.eq_false_iff.mpr c3
  subst c3
  have H1 : (some false) = some r := by rw [if_neg (show ¬ (false = true) by decide)] at H; exact H
  clear H
  have H := H1
  clear H1
  obtain rfl := Option.some.inj H
  go_enter Try.func108, Try.ntmps108
  go_wp2_with (first | ((with_reducible refine gate_dst (N := 1) rfl ?_); refine bx_ (N := 1) #[.int .i64 a0_0, .int .i64 a0_1, .int .i64 a0_2] 26 ?_; intro gb507 hg w11 hbox hb; have BK507 := ak hbox; have GW507 := gy hg HB; have GE507 := gy hg HB; replace HB := bs HB hb; clear hb hbox hg; obtain ⟨_, _, _, _, _, _⟩ := bc3 BK507) | ((with_reducible refine gate_callee (f := 91) rfl ?_); refine goesL_ (some 5) rfl rfl Try.func91 KR rfl #[.int .i64 a0_0, .int .i64 1, .int .i64 9] rfl AR ?_; (with_reducible refine (spec_l1In.calls a0_0 1 9 false _ A2.out).mono ?_); rintro e w' ⟨rfl, ⟨nd, rfl⟩⟩; refine ⟨_, rfl, ?_⟩))
  go_ret
  exact ⟨RT, PB⟩

/-! ### spec_l5Bytes: function 152 -/
def spec_l5Bytes.l0 : Nat → List Int → Int → Option (Bool)
  | 0, _, _ => none
  | k + 1, x0, x3 => if x3 < (x0.length : Int) then (if 0 ≤ x3 then ((spec_l1In.f (rd x0 x3) 0 255).bind fun t512 => (if t512 = true then (spec_l5Bytes.l0 k x0 (wrap64 (x3 + 1))) else (some false))) else (none)) else (some true)
def spec_l5Bytes.f (k : Nat) (l0 : List Int) : Option (Bool) := spec_l5Bytes.l0 k l0 0
set_option maxHeartbeats 8000000 in
set_option maxRecDepth 100000 in
theorem spec_l5Bytes.calls (k : Nat) (A0 : Option Addr) (c0 : Nat) (l0 : List Int) (r : Bool) (w : World) (hr0 : Kd.C (Kd.int .i64) w A0 l0.length l0) (hc0 : l0.length ≤ c0) (h : spec_l5Bytes.f k l0 = some r) :
  Calls Try.prog 152 #[.slice A0 l0.length c0] w fun e w' => e = .returned (.bool r) ∧ Drawn0 w w' := by
 have HR0 := Aside0.mk hr0
 have HC0 := Aside0.mk hc0
 clear hr0 hc0
 have H : (spec_l5Bytes.l0 k l0 0) = some r := h
 clear h
 have H' := Aside0.mk H
 clear H
 go_enter Try.func152, Try.ntmps152
 go_wp2
 go_loopg [3] k (fun kq v3 w' => ∃ (x3_1 : Int), v3 = .int .i64 x3_1 ∧ Aside0 (spec_l5Bytes.l0 kq l0 x3_1 = some r) ∧ Aside0 (kq ≤ k) ∧ Drawn0 w w')
 case atStart => exact ⟨(0), (by first | rfl | (simp; done) | (simp [*]; done)), H', ⟨Nat.le_refl _⟩, by repeat (first | exact Drawn0.refl _ | apply Drawn0.step)⟩
 case round =>
  clear H'
  try clear c1
  obtain ⟨x3_1, rfl, HA, HK1, ⟨m1, rfl⟩⟩ := hrel
  cases gk with
  | zero => exact absurd HA.out (by simp [spec_l5Bytes.l0])
  | succ k1 =>
   have H := HA.out
   clear HA
   simp only [spec_l5Bytes.l0] at H
   by_cases c2 : x3_1 < (l0.length : Int)
   ·rw [if_pos c2] at H
    have c2b0 : decide (x3_1 < (l0.length : Int)) = true := decide_eq_true c2
    clear c2
    by_cases c3 : 0 ≤ x3_1
    ·rw [if_pos c3] at H
     have c3b0 : decide (0 ≤ x3_1) = true := decide_eq_true c3
     clear c3
     replace H := Option.bind_eq_some_iff.mp H
     obtain ⟨t512, A40, H⟩ := H
     replace H : (if t512 = true then (spec_l5Bytes.l0 k1 l0 (wrap64 (x3_1 + 1))) else (some false)) = some r := H
     have A4 := Aside0.mk A40
     clear A40
     by_cases c5 : t512 = true
     ·subst c5
      have H1 : (spec_l5Bytes.l0 k1 l0 (wrap64 (x3_1 + 1))) = some r := by rw [if_pos rfl] at H; exact H
      clear H
      have H := H1
      clear H1
      have H' := Aside0.mk H
      clear H
      have p511 : 0 ≤ (x3_1 : Int) := of_decide_eq_true (by first | (with_reducible assumption) | assumption)
      have q511 : x3_1 < (l0.length : Int) := of_decide_eq_true (by first | (with_reducible assumption) | assumption)
      obtain ⟨ad511, e511, hx511_0⟩ := Kd.at_int HR0.out x3_1 p511 q511
      cases e511
      replace p511 := eq_true p511
      replace q511 := eq_true q511
      go_wp2_with (first | ((with_reducible refine gate_callee (f := 91) rfl ?_); refine goesL_ (some 14) rfl rfl Try.func91 KR rfl #[.int .i64 (rd l0 x3_1), .int .i64 0, .int .i64 255] rfl AR ?_; (with_reducible refine (spec_l1In.calls (rd l0 x3_1) 0 255 true _ A4.out).mono ?_); rintro e w' ⟨rfl, ⟨nd, rfl⟩⟩; refine ⟨_, rfl, ?_⟩))
      go_roundg k1
      case measure => have := HK1.out; omega
      case rel => exact ⟨(wrap64 (x3_1 + 1)), (by first | rfl | (simp; done) | (simp [*]; done)), H', ⟨by have := HK1.out; omega⟩, by repeat (first | exact Drawn0.refl _ | apply Drawn0.step)⟩
     ·replace c5 := Bool.eq_false_iff.mpr c5
      subst c5
      have H1 : (some false) = some r := by rw [if_neg (show ¬ (false = true) by decide)] at H; exact H
      clear H
      have H := H1
      clear H1
      obtain rfl := Option.some.inj H
      have p511 : 0 ≤ (x3_1 : Int) := of_decide_eq_true (by first | (with_reducible assumption) | assumption)
      have q511 : x3_1 < (l0.length : Int) := of_decide_eq_true (by first | (with_reducible assumption) | assumption)
      obtain ⟨ad511, e511, hx511_0⟩ := Kd.at_int HR0.out x3_1 p511 q511
      cases e511
      replace p511 := eq_true p511
      replace q511 := eq_true q511
      go_wp2_with (first | ((with_reducible refine gate_callee (f := 91) rfl ?_); refine goesL_ (some 14) rfl rfl Try.func91 KR rfl #[.int .i64 (rd l0 x3_1), .int .i64 0, .int .i64 255] rfl AR ?_; (with_reducible refine (spec_l1In.calls (rd l0 x3_1) 0 255 false _ A4.out).mono ?_); rintro e w' ⟨rfl, ⟨nd, rfl⟩⟩; refine ⟨_, rfl, ?_⟩))
      go_ret
      exact ⟨by first | rfl | (simp; done) | (simp [*]; done), by repeat (first | exact Drawn0.refl _ | apply Drawn0.step)⟩
    ·rw [if_neg c3] at H
     exact absurd H (by simp)
   ·rw [if_neg c2] at H
    have c2b0 : decide (x3_1 < (l0.length : Int)) = false := decide_eq_false c2
    clear c2
    obtain rfl := Option.some.inj H
    go_wp2
    go_ret
    exact ⟨by first | rfl | (simp; done) | (simp [*]; done), by repeat (first | exact Drawn0.refl _ | apply Drawn0.step)⟩

/-! ### spec_IsResource: function 122 -/
def spec_IsResource.j0 : Nat → Bool → Int → List Int → Int → Int → Int → Option (Bool)
  | 0, _, _, _, _, _, _ => none
  | k + 1, x18, x514000, x514001, x514002, x514003, x514004 => if x18 = true then (some false) else (if x514000 = 3 then ((spec_IsAddress.f x514002 x514003 x514004).bind fun t516 => (if t516 = true then (some ((x514001.length : Int) == 0)) else (some false))) else (if (x514002 == 0 && (x514003 == 0 && (x514004 == 0))) = true then (if x514000 = 4 then (some ((x514001.length : Int) == 0)) else (some true)) else (some false)))
def spec_IsResource.f (k : Nat) (a0_0 : Int) (l0_1 : List Int) (a0_2 : Int) (a0_3 : Int) (a0_4 : Int) : Option (Bool) := (spec_l1In.f a0_0 1 4).bind fun t514 => (if t514 = true then ((spec_l5Bytes.f k l0_1).bind fun t515 => (if t515 = true then (spec_IsResource.j0 k (decide ((l0_1.length : Int) > 6)) a0_0 l0_1 a0_2 a0_3 a0_4) else (spec_IsResource.j0 k true a0_0 l0_1 a0_2 a0_3 a0_4))) else (spec_IsResource.j0 k true a0_0 l0_1 a0_2 a0_3 a0_4))
set_option maxHeartbeats 8000000 in
set_option maxRecDepth 100000 in
theorem spec_IsResource.calls (k : Nat) (a0_0 : Int) (A0_1 : Option Addr) (c0_1 : Nat) (l0_1 : List Int) (a0_2 : Int) (a0_3 : Int) (a0_4 : Int) (r : Bool) (w : World) (hr0_1 : Kd.C (Kd.int .i64) w A0_1 l0_1.length l0_1) (hc0_1 : l0_1.length ≤ c0_1) (h : spec_IsResource.f k a0_0 l0_1 a0_2 a0_3 a0_4 = some r) :
  Calls Try.prog 122 #[.agg #[.int .i64 a0_0, .slice A0_1 l0_1.length c0_1, .int .i64 a0_2, .int .i64 a0_3, .int .i64 a0_4]] w fun e w' => e = .returned (.bool r) ∧ Below w.heap.size w w' := by
 have hu38 := Try.underlying38
 have hu26 := Try.underlying26
 have HR0_1 := Aside0.mk hr0_1
 have HC0_1 := Aside0.mk hc0_1
 clear hr0_1 hc0_1
 have HB := ak (Below.refl w.heap.size w)
 have H : ((spec_l1In.f a0_0 1 4).bind fun t514 => (if t514 = true then ((spec_l5Bytes.f k l0_1).bind fun t515 => (if t515 = true then (spec_IsResource.j0 k (decide ((l0_1.length : Int) > 6)) a0_0 l0_1 a0_2 a0_3 a0_4) else (spec_IsResource.j0 k true a0_0 l0_1 a0_2 a0_3 a0_4))) else (spec_IsResource.j0 k true a0_0 l0_1 a0_2 a0_3 a0_4))) = some r := h
 clear h
 have HC2 := Aside0.mk H
 clear H
 go_enter Try.func122, Try.ntmps122
 go_upto_region 1 with (first | ((with_reducible refine gate_dst (N := 1) rfl ?_); (try (refine gate_guard (by rfl) ?_; dsimp only)); refine bx_ (N := 1) #[.int .i64 a0_0, .slice A0_1 l0_1.length c0_1, .int .i64 a0_2, .int .i64 a0_3, .int .i64 a0_4] 38 ?_; intro gb513 hg w3 hbox hb; have BK513 := ak hbox; have GW513 := gy hg HB; have GE513 := gy hg HB; replace HB := bs HB hb; clear hb hbox hg))
 (try simp only [Act.put, List.setIfInBounds_toArray, List.set_cons_zero, List.set_cons_succ])
 go_cut [18] (fun v18 wc => ∃ (kq : Nat) (x18_1 : Bool), v18 = .bool x18_1 ∧ Aside0 (spec_IsResource.j0 kq x18_1 a0_0 l0_1 a0_2 a0_3 a0_4 = some r) ∧ Aside0 (kq ≤ k) ∧ Aside0 (wc.heap[gb513]? = some (.cells #[.int .i64 a0_0, (.slice A0_1 l0_1.length c0_1), .int .i64 a0_2, .int .i64 a0_3, .int .i64 a0_4] 38 (0, 0))) ∧ Aside0 (Below w.heap.size w wc))
 case first =>
  have H := HC2.out
  clear HC2
  replace H := Option.bind_eq_some_iff.mp H
  obtain ⟨t514, A40, H⟩ := H
  replace H : (if t514 = true then ((spec_l5Bytes.f k l0_1).bind fun t515 => (if t515 = true then (spec_IsResource.j0 k (decide ((l0_1.length : Int) > 6)) a0_0 l0_1 a0_2 a0_3 a0_4) else (spec_IsResource.j0 k true a0_0 l0_1 a0_2 a0_3 a0_4))) else (spec_IsResource.j0 k true a0_0 l0_1 a0_2 a0_3 a0_4)) = some r := H
  have A4 := Aside0.mk A40
  clear A40
  by_cases c5 : t514 = true
  ·subst c5
   have H1 : ((spec_l5Bytes.f k l0_1).bind fun t515 => (if t515 = true then (spec_IsResource.j0 k (decide ((l0_1.length : Int) > 6)) a0_0 l0_1 a0_2 a0_3 a0_4) else (spec_IsResource.j0 k true a0_0 l0_1 a0_2 a0_3 a0_4))) = some r := by rw [if_pos rfl] at H; exact H
   clear H
   have H := H1
   clear H1
   replace H := Option.bind_eq_some_iff.mp H
   obtain ⟨t515, A60, H⟩ := H
   replace H : (if t515 = true then (spec_IsResource.j0 k (decide ((l0_1.length : Int) > 6)) a0_0 l0_1 a0_2 a0_3 a0_4) else (spec_IsResource.j0 k true a0_0 l0_1 a0_2 a0_3 a0_4)) = some r := H
   have A6 := Aside0.mk A60
   clear A60
   by_cases c7 : t515 = true
   ·subst c7
    have H1 : (spec_IsResource.j0 k (decide ((l0_1.length : Int) > 6)) a0_0 l0_1 a0_2 a0_3 a0_4) = some r := by rw [if_pos rfl] at H; exact H
    clear H
    have H := H1
    clear H1
    have H' := Aside0.mk H
    clear H
    obtain ⟨hcz8_0, hcz8_1, hcz8_2, hcz8_3, hcz8_4, hfz8_0, hfz8_1, hfz8_2, hfz8_3, hfz8_4⟩ := bc5 BK513
    go_wp2_with (first | ((with_reducible refine gate_callee (f := 91) rfl ?_); refine goesL_ (some 5) rfl rfl Try.func91 KR rfl #[.int .i64 a0_0, .int .i64 1, .int .i64 4] rfl AR ?_; (with_reducible refine (spec_l1In.calls a0_0 1 4 true _ A4.out).mono ?_); rintro e w' ⟨rfl, ⟨nd, rfl⟩⟩; refine ⟨_, rfl, ?_⟩) | (go_at_call 152; (with_reducible refine (spec_l5Bytes.calls k _ _ l0_1 true _ ?side1 ?side2 A6.out).mono ?_); (case side1 => repeat (first | exact (Kd.C_below HR0_1.out PB) | (with_reducible refine Kd.C_alloc ?_ _) | (with_reducible refine Kd.C_drewN ?_ _) | (with_reducible refine Kd.C_drew ?_))); (case side2 => exact HC0_1.out); rintro e w' ⟨rfl, ⟨nd, rfl⟩⟩))
    go_meet
    case rel => exact ⟨_, (decide ((l0_1.length : Int) > 6)), (by first | rfl | (simp; done) | (simp [*]; done)), H', ⟨by first | omega | exact Nat.le_refl _⟩, ⟨PK BK513⟩, ⟨PB⟩⟩
   ·replace c7 := Bool.eq_false_iff.mpr c7
    subst c7
    have H1 : (spec_IsResource.j0 k true a0_0 l0_1 a0_2 a0_3 a0_4) = some r := by rw [if_neg (show ¬ (false = true) by decide)] at H; exact H
    clear H
    have H := H1
    clear H1
    have H' := Aside0.mk H
    clear H
    obtain ⟨hcz9_0, hcz9_1, hcz9_2, hcz9_3, hcz9_4, hfz9_0, hfz9_1, hfz9_2, hfz9_3, hfz9_4⟩ := bc5 BK513
    go_wp2_with (first | ((with_reducible refine gate_callee (f := 91) rfl ?_); refine goesL_ (some 5) rfl rfl Try.func91 KR rfl #[.int .i64 a0_0, .int .i64 1, .int .i64 4] rfl AR ?_; (with_reducible refine (spec_l1In.calls a0_0 1 4 true _ A4.out).mono ?_); rintro e w' ⟨rfl, ⟨nd, rfl⟩⟩; refine ⟨_, rfl, ?_⟩) | (go_at_call 152; (with_reducible refine (spec_l5Bytes.calls k _ _ l0_1 false _ ?side1 ?side2 A6.out).mono ?_); (case side1 => repeat (first | exact (Kd.C_below HR0_1.out PB) | (with_reducible refine Kd.C_alloc ?_ _) | (with_reducible refine Kd.C_drewN ?_ _) | (with_reducible refine Kd.C_drew ?_))); (case side2 => exact HC0_1.out); rintro e w' ⟨rfl, ⟨nd, rfl⟩⟩))
    go_meet
    case rel => exact ⟨_, (true), (by first | rfl | (simp; done) | (simp [*]; done)), H', ⟨by first | omega | exact Nat.le_refl _⟩, ⟨PK BK513⟩, ⟨PB⟩⟩
  ·replace c5 := Bool.eq_false_iff.mpr c5
   subst c5
   have H1 : (spec_IsResource.j0 k true a0_0 l0_1 a0_2 a0_3 a0_4) = some r := by rw [if_neg (show ¬ (false = true) by decide)] at H; exact H
   clear H
   have H := H1
   clear H1
   have H' := Aside0.mk H
   clear H
   obtain ⟨hcz10_0, hcz10_1, hcz10_2, hcz10_3, hcz10_4, hfz10_0, hfz10_1, hfz10_2, hfz10_3, hfz10_4⟩ := bc5 BK513
   go_wp2_with (first | ((with_reducible refine gate_callee (f := 91) rfl ?_); refine goesL_ (some 5) rfl rfl Try.func91 KR rfl #[.int .i64 a0_0, .int .i64 1, .int .i64 4] rfl AR ?_; (with_reducible refine (spec_l1In.calls a0_0 1 4 false _ A4.out).mono ?_); rintro e w' ⟨rfl, ⟨nd, rfl⟩⟩; refine ⟨_, rfl, ?_⟩))
   go_meet
   case rel => exact ⟨_, (true), (by first | rfl | (simp; done) | (simp [*]; done)), H', ⟨by first | omega | exact Nat.le_refl _⟩, ⟨PK BK513⟩, ⟨PB⟩⟩
 case rest =>
  clear HC2
  (try clear c1); (try clear p2); (try clear c5); (try clear c7); (try clear c9); (try clear hcz10_0); (try clear hcz10_1); (try clear hcz10_2); (try clear hcz10_3); (try clear hcz10_4); (try clear hcz8_0); (try clear hcz8_1); (try clear hcz8_2); (try clear hcz8_3); (try clear hcz8_4); (try clear hcz9_0); (try clear hcz9_1); (try clear hcz9_2); (try clear hcz9_3); (try clear hcz9_4); (try clear hfz10_0); (try clear hfz10_1); (try clear hfz10_2); (try clear hfz10_3); (try clear hfz10_4); (try clear hfz8_0); (try clear hfz8_1); (try clear hfz8_2); (try clear hfz8_3); (try clear hfz8_4); (try clear hfz9_0); (try clear hfz9_1); (try clear hfz9_2); (try clear hfz9_3); (try clear hfz9_4)
  obtain ⟨kq, x18_1, rfl, HA, HJ1, BK513, HB⟩ := hcut
  cases kq with
  | zero => exact absurd HA.out (by simp [spec_IsResource.j0])
  | succ kj1 =>
   have H := HA.out
   clear HA
   simp only [spec_IsResource.j0] at H
   by_cases c11 : x18_1 = true
   ·subst c11
    have H1 : (some false) = some r := by rw [if_pos rfl] at H; exact H
    clear H
    have H := H1
    clear H1
    obtain rfl := Option.some.inj H
    go_wp2
    go_ret
    exact ⟨RT, PB⟩
   ·replace c11 := Bool.eq_false_iff.mpr c11
    subst c11
    have H1 : (if a0_0 = 3 then ((spec_IsAddress.f a0_2 a0_3 a0_4).bind fun t516 => (if t516 = true then (some ((l0_1.length : Int) == 0)) else (some false))) else (if (a0_2 == 0 && (a0_3 == 0 && (a0_4 == 0))) = true then (if a0_0 = 4 then (some ((l0_1.length : Int) == 0)) else (some true)) else (some false))) = some r := by rw [if_neg (show ¬ (false = true) by decide)] at H; exact H
    clear H
    have H := H1
    clear H1
    by_cases c12 : a0_0 = 3
    ·rw [if_pos c12] at H
     have c12b0 : (a0_0 == 3) = true := beq_iff_eq.mpr c12
     have c12b1 : (a0_0 != 3) = false := bne_eq_false_iff_eq.mpr c12
     clear c12
     replace H := Option.bind_eq_some_iff.mp H
     obtain ⟨t516, A130, H⟩ := H
     replace H : (if t516 = true then (some ((l0_1.length : Int) == 0)) else (some false)) = some r := H
     have A13 := Aside0.mk A130
     clear A130
     by_cases c14 : t516 = true
     ·subst c14
      have H1 : (some ((l0_1.length : Int) == 0)) = some r := by rw [if_pos rfl] at H; exact H
      clear H
      have H := H1
      clear H1
      obtain rfl := Option.some.inj H
      obtain ⟨_, _, _, _, _, _, _, _, _, _⟩ := bc5 BK513
      go_wp2_with (first | ((with_reducible refine gate_callee (f := 108) rfl ?_); refine goesL_ (some 24) rfl rfl Try.func108 KR rfl #[.agg #[.int .i64 a0_2, .int .i64 a0_3, .int .i64 a0_4]] rfl AR ?_; (with_reducible refine (spec_IsAddress.calls a0_2 a0_3 a0_4 true _ A13.out).mono ?_); rintro e w16 ⟨rfl, hb⟩; refine ⟨_, rfl, ?_⟩; replace BK513 := kf BK513 hb; replace HB := bs HB hb; (try clear hb); (try clear hb2); (try clear hk); (try clear hi); obtain ⟨_, _, _, _, _, _, _, _, _, _⟩ := bc5 BK513))
      go_ret
      exact ⟨RT, PB⟩
     ·replace c14 := Bool.eq_false_iff.mpr c14
      subst c14
      have H1 : (some false) = some r := by rw [if_neg (show ¬ (false = true) by decide)] at H; exact H
      clear H
      have H := H1
      clear H1
      obtain rfl := Option.some.inj H
      obtain ⟨_, _, _, _, _, _, _, _, _, _⟩ := bc5 BK513
      go_wp2_with (first | ((with_reducible refine gate_callee (f := 108) rfl ?_); refine goesL_ (some 24) rfl rfl Try.func108 KR rfl #[.agg #[.int .i64 a0_2, .int .i64 a0_3, .int .i64 a0_4]] rfl AR ?_; (with_reducible refine (spec_IsAddress.calls a0_2 a0_3 a0_4 false _ A13.out).mono ?_); rintro e w19 ⟨rfl, hb⟩; refine ⟨_, rfl, ?_⟩; replace BK513 := kf BK513 hb; replace HB := bs HB hb; (try clear hb); (try clear hb2); (try clear hk); (try clear hi)))
      go_ret
      exact ⟨RT, PB⟩
    ·rw [if_neg c12] at H
     have c12b0 : (a0_0 == 3) = false := beq_eq_false_iff_ne.mpr c12
     have c12b1 : (a0_0 != 3) = true := bne_iff_ne.mpr c12
     by_cases c20 : (a0_2 == 0 && (a0_3 == 0 && (a0_4 == 0))) = true
     ·rw [if_pos c20] at H
      have c20b0 : (a0_2 == 0 && (a0_3 == 0 && (a0_4 == 0))) = true := c20
      (try (have c20b1 : decide (a0_2 = 0 && (a0_3 == 0 && (a0_4 == 0))) = true := by simpa using c20))
      (try (have c20b2 : (a0_2 == 0 && (a0_3 == 0 && (a0_4 == 0))) = true := by simpa using c20))
      clear c20
      by_cases c21 : a0_0 = 4
      ·rw [if_pos c21] at H
       have c21b0 : (a0_0 == 4) = true := beq_iff_eq.mpr c21
       have c21b1 : (a0_0 != 4) = false := bne_eq_false_iff_eq.mpr c21
       clear c21
       obtain rfl := Option.some.inj H
       obtain ⟨_, _, _, _, _, _, _, _, _, _⟩ := bc5 BK513
       go_wp2
       go_ret
       exact ⟨RT, PB⟩
      ·rw [if_neg c21] at H
       have c21b0 : (a0_0 == 4) = false := beq_eq_false_iff_ne.mpr c21
       have c21b1 : (a0_0 != 4) = true := bne_iff_ne.mpr c21
       obtain rfl := Option.some.inj H
       obtain ⟨_, _, _, _, _, _, _, _, _, _⟩ := bc5 BK513
       go_wp2
       go_ret
       exact ⟨RT, PB⟩
     ·rw [if_neg c20] at H
      have c20b0 : (a0_2 == 0 && (a0_3 == 0 && (a0_4 == 0))) = false := by simpa using c20
      (try (have c20b1 : decide (a0_2 = 0 && (a0_3 == 0 && (a0_4 == 0))) = false := by simpa using c20))
      (try (have c20b2 : (a0_2 == 0 && (a0_3 == 0 && (a0_4 == 0))) = false := by simpa using c20))
      (try (have c20b3 : ¬ (a0_2 = 0 && (a0_3 == 0 && (a0_4 == 0))) := by simpa using c20))
      clear c20
      obtain rfl := Option.some.inj H
      obtain ⟨_, _, _, _, _, _, _, _, _, _⟩ := bc5 BK513
      go_wp2
      go_ret
      exact ⟨RT, PB⟩

/-! ### spec_IsSite: function 90 -/
def spec_IsSite.l0 : Nat → List (S169) → Int → Option (Bool)
  | 0, _, _ => none
  | k + 1, x0, x3 => if x3 < (x0.length : Int) then (if 0 ≤ x3 then ((spec_IsAddress.f ((rd_T169 x0 x3).f0.f0) ((rd_T169 x0 x3).f0.f1) ((rd_T169 x0 x3).f0.f2)).bind fun t518 => (if t518 = true then ((spec_l1In.f ((rd_T169 x0 x3).f1) 0 1000).bind fun t520 => (if t520 = true then ((spec_IsResource.f k ((rd_T169 x0 x3).f2.f0) ((rd_T169 x0 x3).f2.f1) ((rd_T169 x0 x3).f2.f2.f0) ((rd_T169 x0 x3).f2.f2.f1) ((rd_T169 x0 x3).f2.f2.f2)).bind fun t522 => (if t522 = true then (spec_IsSite.l0 k x0 (wrap64 (x3 + 1))) else (some false))) else (some false))) else (some false))) else (none)) else (some (decide ((x0.length : Int) ≤ 12)))
def spec_IsSite.f (k : Nat) (l0 : List (S169)) : Option (Bool) := spec_IsSite.l0 k l0 0
set_option maxHeartbeats 8000000 in
set_option maxRecDepth 100000 in
theorem spec_IsSite.calls (k : Nat) (A0 : Option Addr) (c0 : Nat) (l0 : List (S169)) (r : Bool) (w : World) (hr0 : Kd.C k169 w A0 l0.length l0) (hc0 : l0.length ≤ c0) (h : spec_IsSite.f k l0 = some r) :
  Calls Try.prog 90 #[.slice A0 l0.length c0] w fun e w' => e = .returned (.bool r) ∧ Below w.heap.size w w' := by
 have hu26 := Try.underlying26
 have hu38 := Try.underlying38
 have HR0 := Aside0.mk hr0
 have HC0 := Aside0.mk hc0
 clear hr0 hc0
 have HB := ak (Below.refl w.heap.size w)
 have H : (spec_IsSite.l0 k l0 0) = some r := h
 clear h
 have H' := Aside0.mk H
 clear H
 go_enter Try.func90, Try.ntmps90
 go_wp2
 go_loopg [3] k (fun kq v3 w' => ∃ (x3_1 : Int), v3 = .int .i64 x3_1 ∧ Aside0 (spec_IsSite.l0 kq l0 x3_1 = some r) ∧ Aside0 (kq ≤ k) ∧ Aside0 (Below w.heap.size w w'))
 case atStart => exact ⟨(0), (by first | rfl | (simp; done) | (simp [*]; done)), H', ⟨Nat.le_refl _⟩, ⟨PB⟩⟩
 case round =>
  clear H'
  obtain ⟨x3_1, rfl, HA, HK1, HB⟩ := hrel
  cases gk with
  | zero => exact absurd HA.out (by simp [spec_IsSite.l0])
  | succ k1 =>
   have H := HA.out
   clear HA
   simp only [spec_IsSite.l0] at H
   by_cases c2 : x3_1 < (l0.length : Int)
   ·rw [if_pos c2] at H
    have c2b0 : decide (x3_1 < (l0.length : Int)) = true := decide_eq_true c2
    clear c2
    by_cases c3 : 0 ≤ x3_1
    ·rw [if_pos c3] at H
     have c3b0 : decide (0 ≤ x3_1) = true := decide_eq_true c3
     clear c3
     replace H := Option.bind_eq_some_iff.mp H
     obtain ⟨t518, A40, H⟩ := H
     replace H : (if t518 = true then ((spec_l1In.f ((rd_T169 l0 x3_1).f1) 0 1000).bind fun t520 => (if t520 = true then ((spec_IsResource.f k1 ((rd_T169 l0 x3_1).f2.f0) ((rd_T169 l0 x3_1).f2.f1) ((rd_T169 l0 x3_1).f2.f2.f0) ((rd_T169 l0 x3_1).f2.f2.f1) ((rd_T169 l0 x3_1).f2.f2.f2)).bind fun t522 => (if t522 = true then (spec_IsSite.l0 k1 l0 (wrap64 (x3_1 + 1))) else (some false))) else (some false))) else (some false)) = some r := H
     have A4 := Aside0.mk A40
     clear A40
     by_cases c5 : t518 = true
     ·subst c5
      have H1 : ((spec_l1In.f ((rd_T169 l0 x3_1).f1) 0 1000).bind fun t520 => (if t520 = true then ((spec_IsResource.f k1 ((rd_T169 l0 x3_1).f2.f0) ((rd_T169 l0 x3_1).f2.f1) ((rd_T169 l0 x3_1).f2.f2.f0) ((rd_T169 l0 x3_1).f2.f2.f1) ((rd_T169 l0 x3_1).f2.f2.f2)).bind fun t522 => (if t522 = true then (spec_IsSite.l0 k1 l0 (wrap64 (x3_1 + 1))) else (some false))) else (some false))) = some r := by rw [if_pos rfl] at H; exact H
      clear H
      have H := H1
      clear H1
      replace H := Option.bind_eq_some_iff.mp H
      obtain ⟨t520, A60, H⟩ := H
      replace H : (if t520 = true then ((spec_IsResource.f k1 ((rd_T169 l0 x3_1).f2.f0) ((rd_T169 l0 x3_1).f2.f1) ((rd_T169 l0 x3_1).f2.f2.f0) ((rd_T169 l0 x3_1).f2.f2.f1) ((rd_T169 l0 x3_1).f2.f2.f2)).bind fun t522 => (if t522 = true then (spec_IsSite.l0 k1 l0 (wrap64 (x3_1 + 1))) else (some false))) else (some false)) = some r := H
      have A6 := Aside0.mk A60
      clear A60
      by_cases c7 : t520 = true
      ·subst c7
       have H1 : ((spec_IsResource.f k1 ((rd_T169 l0 x3_1).f2.f0) ((rd_T169 l0 x3_1).f2.f1) ((rd_T169 l0 x3_1).f2.f2.f0) ((rd_T169 l0 x3_1).f2.f2.f1) ((rd_T169 l0 x3_1).f2.f2.f2)).bind fun t522 => (if t522 = true then (spec_IsSite.l0 k1 l0 (wrap64 (x3_1 + 1))) else (some false))) = some r := by rw [if_pos rfl] at H; exact H
       clear H
       have H := H1
       clear H1
       replace H := Option.bind_eq_some_iff.mp H
       obtain ⟨t522, A80, H⟩ := H
       replace H : (if t522 = true then (spec_IsSite.l0 k1 l0 (wrap64 (x3_1 + 1))) else (some false)) = some r := H
       have A8 := Aside0.mk A80
       clear A80
       by_cases c9 : t522 = true
       ·subst c9
        have H1 : (spec_IsSite.l0 k1 l0 (wrap64 (x3_1 + 1))) = some r := by rw [if_pos rfl] at H; exact H
        clear H
        have H := H1
        clear H1
        have H' := Aside0.mk H
        clear H
        have p517 : 0 ≤ (x3_1 : Int) := of_decide_eq_true (by first | (with_reducible assumption) | assumption)
        have q517 : x3_1 < (l0.length : Int) := of_decide_eq_true (by first | (with_reducible assumption) | assumption)
        obtain ⟨ad517, A517_5, c517_5, e517, hx517_0, hx517_1, hx517_2, hx517_3, hx517_4, hx517_5, hx517_6, hx517_7, hx517_8, hl517_5, hi517_5⟩ := at_T169 HR0.out x3_1 p517 q517
        cases e517
        replace hx517_0 := hx_ HB hx517_0
        replace hx517_1 := hx_ HB hx517_1
        replace hx517_2 := hx_ HB hx517_2
        replace hx517_3 := hx_ HB hx517_3
        replace hx517_4 := hx_ HB hx517_4
        replace hx517_5 := hx_ HB hx517_5
        replace hx517_6 := hx_ HB hx517_6
        replace hx517_7 := hx_ HB hx517_7
        replace hx517_8 := hx_ HB hx517_8
        have HR517_5 := Aside0.mk hi517_5
        have HC517_5 := Aside0.mk hl517_5
        clear hi517_5 hl517_5
        replace p517 := eq_true p517
        replace q517 := eq_true q517
        go_wp2_with (first | ((with_reducible refine gate_callee (f := 108) rfl ?_); refine goesL_ (some 15) rfl rfl Try.func108 KR rfl #[.agg #[.int .i64 ((rd_T169 l0 x3_1).f0.f0), .int .i64 ((rd_T169 l0 x3_1).f0.f1), .int .i64 ((rd_T169 l0 x3_1).f0.f2)]] rfl AR ?_; (with_reducible refine (spec_IsAddress.calls ((rd_T169 l0 x3_1).f0.f0) ((rd_T169 l0 x3_1).f0.f1) ((rd_T169 l0 x3_1).f0.f2) true _ A4.out).mono ?_); rintro e w10 ⟨rfl, hb⟩; refine ⟨_, rfl, ?_⟩; replace HB := bs HB hb; (try clear hb); (try clear hb2); (try clear hk); (try clear hi); have p519 : 0 ≤ (x3_1 : Int) := of_decide_eq_true (by first | (with_reducible assumption) | assumption); have q519 : x3_1 < (l0.length : Int) := of_decide_eq_true (by first | (with_reducible assumption) | assumption); obtain ⟨ad519, A519_5, c519_5, e519, hx519_0, hx519_1, hx519_2, hx519_3, hx519_4, hx519_5, hx519_6, hx519_7, hx519_8, hl519_5, hi519_5⟩ := at_T169 HR0.out x3_1 p519 q519; obtain rfl : ad517 = ad519 := (by injection e519); replace hx519_0 := hx_ HB hx519_0; replace hx519_1 := hx_ HB hx519_1; replace hx519_2 := hx_ HB hx519_2; replace hx519_3 := hx_ HB hx519_3; replace hx519_4 := hx_ HB hx519_4; replace hx519_5 := hx_ HB hx519_5; replace hx519_6 := hx_ HB hx519_6; replace hx519_7 := hx_ HB hx519_7; replace hx519_8 := hx_ HB hx519_8; have HR519_5 := Aside0.mk hi519_5; have HC519_5 := Aside0.mk hl519_5; clear hi519_5 hl519_5; replace p519 := eq_true p519; replace q519 := eq_true q519) | (go_at_call 91; (with_reducible refine (spec_l1In.calls ((rd_T169 l0 x3_1).f1) 0 1000 true _ A6.out).mono ?_); rintro e w' ⟨rfl, ⟨nd, rfl⟩⟩; have p521 : 0 ≤ (x3_1 : Int) := of_decide_eq_true (by first | (with_reducible assumption) | assumption); have q521 : x3_1 < (l0.length : Int) := of_decide_eq_true (by first | (with_reducible assumption) | assumption); obtain ⟨ad521, A521_5, c521_5, e521, hx521_0, hx521_1, hx521_2, hx521_3, hx521_4, hx521_5, hx521_6, hx521_7, hx521_8, hl521_5, hi521_5⟩ := at_T169 HR0.out x3_1 p521 q521; obtain rfl : ad517 = ad521 := (by injection e521); replace hx521_0 := hx_ HB hx521_0; replace hx521_1 := hx_ HB hx521_1; replace hx521_2 := hx_ HB hx521_2; replace hx521_3 := hx_ HB hx521_3; replace hx521_4 := hx_ HB hx521_4; replace hx521_5 := hx_ HB hx521_5; replace hx521_6 := hx_ HB hx521_6; replace hx521_7 := hx_ HB hx521_7; replace hx521_8 := hx_ HB hx521_8; have HR521_5 := Aside0.mk hi521_5; have HC521_5 := Aside0.mk hl521_5; clear hi521_5 hl521_5; replace p521 := eq_true p521; replace q521 := eq_true q521; have ea_ := Option.some.inj (hx519_5.symm.trans hx521_5); injection ea_ with ea_ en_ ec_; subst ea_; subst ec_; clear en_) | (go_at_call 122; (with_reducible refine (spec_IsResource.calls k1 ((rd_T169 l0 x3_1).f2.f0) _ _ ((rd_T169 l0 x3_1).f2.f1) ((rd_T169 l0 x3_1).f2.f2.f0) ((rd_T169 l0 x3_1).f2.f2.f1) ((rd_T169 l0 x3_1).f2.f2.f2) true _ ?side1 ?side2 A8.out).mono ?_); (case side1 => repeat (first | exact (Kd.C_below HR521_5.out PB) | (with_reducible refine Kd.C_alloc ?_ _) | (with_reducible refine Kd.C_drewN ?_ _) | (with_reducible refine Kd.C_drew ?_))); (case side2 => exact HC521_5.out); rintro e w11 ⟨rfl, hb⟩; replace HB := bs HB hb; (try clear hb); (try clear hb2); (try clear hk); (try clear hi)))
        go_roundg k1
        case measure => have := HK1.out; omega
        case rel => exact ⟨(wrap64 (x3_1 + 1)), (by first | rfl | (simp; done) | (simp [*]; done)), H', ⟨by have := HK1.out; omega⟩, ⟨PB⟩⟩
       ·replace c9 := Bool.eq_false_iff.mpr c9
        subst c9
        have H1 : (some false) = some r := by rw [if_neg (show ¬ (false = true) by decide)] at H; exact H
        clear H
        have H := H1
        clear H1
        obtain rfl := Option.some.inj H
        have p517 : 0 ≤ (x3_1 : Int) := of_decide_eq_true (by first | (with_reducible assumption) | assumption)
        have q517 : x3_1 < (l0.length : Int) := of_decide_eq_true (by first | (with_reducible assumption) | assumption)
        obtain ⟨ad517, A517_5, c517_5, e517, hx517_0, hx517_1, hx517_2, hx517_3, hx517_4, hx517_5, hx517_6, hx517_7, hx517_8, hl517_5, hi517_5⟩ := at_T169 HR0.out x3_1 p517 q517
        cases e517
        replace hx517_0 := hx_ HB hx517_0
        replace hx517_1 := hx_ HB hx517_1
        replace hx517_2 := hx_ HB hx517_2
        replace hx517_3 := hx_ HB hx517_3
        replace hx517_4 := hx_ HB hx517_4
        replace hx517_5 := hx_ HB hx517_5
        replace hx517_6 := hx_ HB hx517_6
        replace hx517_7 := hx_ HB hx517_7
        replace hx517_8 := hx_ HB hx517_8
        have HR517_5 := Aside0.mk hi517_5
        have HC517_5 := Aside0.mk hl517_5
        clear hi517_5 hl517_5
        replace p517 := eq_true p517
        replace q517 := eq_true q517
        go_wp2_with (first | ((with_reducible refine gate_callee (f := 108) rfl ?_); refine goesL_ (some 15) rfl rfl Try.func108 KR rfl #[.agg #[.int .i64 ((rd_T169 l0 x3_1).f0.f0), .int .i64 ((rd_T169 l0 x3_1).f0.f1), .int .i64 ((rd_T169 l0 x3_1).f0.f2)]] rfl AR ?_; (with_reducible refine (spec_IsAddress.calls ((rd_T169 l0 x3_1).f0.f0) ((rd_T169 l0 x3_1).f0.f1) ((rd_T169 l0 x3_1).f0.f2) true _ A4.out).mono ?_); rintro e w12 ⟨rfl, hb⟩; refine ⟨_, rfl, ?_⟩; replace HB := bs HB hb; (try clear hb); (try clear hb2); (try clear hk); (try clear hi); have p519 : 0 ≤ (x3_1 : Int) := of_decide_eq_true (by first | (with_reducible assumption) | assumption); have q519 : x3_1 < (l0.length : Int) := of_decide_eq_true (by first | (with_reducible assumption) | assumption); obtain ⟨ad519, A519_5, c519_5, e519, hx519_0, hx519_1, hx519_2, hx519_3, hx519_4, hx519_5, hx519_6, hx519_7, hx519_8, hl519_5, hi519_5⟩ := at_T169 HR0.out x3_1 p519 q519; obtain rfl : ad517 = ad519 := (by injection e519); replace hx519_0 := hx_ HB hx519_0; replace hx519_1 := hx_ HB hx519_1; replace hx519_2 := hx_ HB hx519_2; replace hx519_3 := hx_ HB hx519_3; replace hx519_4 := hx_ HB hx519_4; replace hx519_5 := hx_ HB hx519_5; replace hx519_6 := hx_ HB hx519_6; replace hx519_7 := hx_ HB hx519_7; replace hx519_8 := hx_ HB hx519_8; have HR519_5 := Aside0.mk hi519_5; have HC519_5 := Aside0.mk hl519_5; clear hi519_5 hl519_5; replace p519 := eq_true p519; replace q519 := eq_true q519) | (go_at_call 91; (with_reducible refine (spec_l1In.calls ((rd_T169 l0 x3_1).f1) 0 1000 true _ A6.out).mono ?_); rintro e w' ⟨rfl, ⟨nd, rfl⟩⟩; have p521 : 0 ≤ (x3_1 : Int) := of_decide_eq_true (by first | (with_reducible assumption) | assumption); have q521 : x3_1 < (l0.length : Int) := of_decide_eq_true (by first | (with_reducible assumption) | assumption); obtain ⟨ad521, A521_5, c521_5, e521, hx521_0, hx521_1, hx521_2, hx521_3, hx521_4, hx521_5, hx521_6, hx521_7, hx521_8, hl521_5, hi521_5⟩ := at_T169 HR0.out x3_1 p521 q521; obtain rfl : ad517 = ad521 := (by injection e521); replace hx521_0 := hx_ HB hx521_0; replace hx521_1 := hx_ HB hx521_1; replace hx521_2 := hx_ HB hx521_2; replace hx521_3 := hx_ HB hx521_3; replace hx521_4 := hx_ HB hx521_4; replace hx521_5 := hx_ HB hx521_5; replace hx521_6 := hx_ HB hx521_6; replace hx521_7 := hx_ HB hx521_7; replace hx521_8 := hx_ HB hx521_8; have HR521_5 := Aside0.mk hi521_5; have HC521_5 := Aside0.mk hl521_5; clear hi521_5 hl521_5; replace p521 := eq_true p521; replace q521 := eq_true q521; have ea_ := Option.some.inj (hx519_5.symm.trans hx521_5); injection ea_ with ea_ en_ ec_; subst ea_; subst ec_; clear en_) | (go_at_call 122; (with_reducible refine (spec_IsResource.calls k1 ((rd_T169 l0 x3_1).f2.f0) _ _ ((rd_T169 l0 x3_1).f2.f1) ((rd_T169 l0 x3_1).f2.f2.f0) ((rd_T169 l0 x3_1).f2.f2.f1) ((rd_T169 l0 x3_1).f2.f2.f2) false _ ?side1 ?side2 A8.out).mono ?_); (case side1 => repeat (first | exact (Kd.C_below HR521_5.out PB) | (with_reducible refine Kd.C_alloc ?_ _) | (with_reducible refine Kd.C_drewN ?_ _) | (with_reducible refine Kd.C_drew ?_))); (case side2 => exact HC521_5.out); rintro e w13 ⟨rfl, hb⟩; replace HB := bs HB hb; (try clear hb); (try clear hb2); (try clear hk); (try clear hi)))
        go_ret
        exact ⟨RT, PB⟩
      ·replace c7 := Bool.eq_false_iff.mpr c7
       subst c7
       have H1 : (some false) = some r := by rw [if_neg (show ¬ (false = true) by decide)] at H; exact H
       clear H
       have H := H1
       clear H1
       obtain rfl := Option.some.inj H
       have p517 : 0 ≤ (x3_1 : Int) := of_decide_eq_true (by first | (with_reducible assumption) | assumption)
       have q517 : x3_1 < (l0.length : Int) := of_decide_eq_true (by first | (with_reducible assumption) | assumption)
       obtain ⟨ad517, A517_5, c517_5, e517, hx517_0, hx517_1, hx517_2, hx517_3, hx517_4, hx517_5, hx517_6, hx517_7, hx517_8, hl517_5, hi517_5⟩ := at_T169 HR0.out x3_1 p517 q517
       cases e517
       replace hx517_0 := hx_ HB hx517_0
       replace hx517_1 := hx_ HB hx517_1
       replace hx517_2 := hx_ HB hx517_2
       replace hx517_3 := hx_ HB hx517_3
       replace hx517_4 := hx_ HB hx517_4
       replace hx517_5 := hx_ HB hx517_5
       replace hx517_6 := hx_ HB hx517_6
       replace hx517_7 := hx_ HB hx517_7
       replace hx517_8 := hx_ HB hx517_8
       have HR517_5 := Aside0.mk hi517_5
       have HC517_5 := Aside0.mk hl517_5
       clear hi517_5 hl517_5
       replace p517 := eq_true p517
       replace q517 := eq_true q517
       go_wp2_with (first | ((with_reducible refine gate_callee (f := 108) rfl ?_); refine goesL_ (some 15) rfl rfl Try.func108 KR rfl #[.agg #[.int .i64 ((rd_T169 l0 x3_1).f0.f0), .int .i64 ((rd_T169 l0 x3_1).f0.f1), .int .i64 ((rd_T169 l0 x3_1).f0.f2)]] rfl AR ?_; (with_reducible refine (spec_IsAddress.calls ((rd_T169 l0 x3_1).f0.f0) ((rd_T169 l0 x3_1).f0.f1) ((rd_T169 l0 x3_1).f0.f2) true _ A4.out).mono ?_); rintro e w14 ⟨rfl, hb⟩; refine ⟨_, rfl, ?_⟩; replace HB := bs HB hb; (try clear hb); (try clear hb2); (try clear hk); (try clear hi); have p519 : 0 ≤ (x3_1 : Int) := of_decide_eq_true (by first | (with_reducible assumption) | assumption); have q519 : x3_1 < (l0.length : Int) := of_decide_eq_true (by first | (with_reducible assumption) | assumption); obtain ⟨ad519, A519_5, c519_5, e519, hx519_0, hx519_1, hx519_2, hx519_3, hx519_4, hx519_5, hx519_6, hx519_7, hx519_8, hl519_5, hi519_5⟩ := at_T169 HR0.out x3_1 p519 q519; obtain rfl : ad517 = ad519 := (by injection e519); replace hx519_0 := hx_ HB hx519_0; replace hx519_1 := hx_ HB hx519_1; replace hx519_2 := hx_ HB hx519_2; replace hx519_3 := hx_ HB hx519_3; replace hx519_4 := hx_ HB hx519_4; replace hx519_5 := hx_ HB hx519_5; replace hx519_6 := hx_ HB hx519_6; replace hx519_7 := hx_ HB hx519_7; replace hx519_8 := hx_ HB hx519_8; have HR519_5 := Aside0.mk hi519_5; have HC519_5 := Aside0.mk hl519_5; clear hi519_5 hl519_5; replace p519 := eq_true p519; replace q519 := eq_true q519) | (go_at_call 91; (with_reducible refine (spec_l1In.calls ((rd_T169 l0 x3_1).f1) 0 1000 false _ A6.out).mono ?_); rintro e w' ⟨rfl, ⟨nd, rfl⟩⟩))
       go_ret
       exact ⟨RT, PB⟩
     ·replace c5 := Bool.eq_false_iff.mpr c5
      subst c5
      have H1 : (some false) = some r := by rw [if_neg (show ¬ (false = true) by decide)] at H; exact H
      clear H
      have H := H1
      clear H1
      obtain rfl := Option.some.inj H
      have p517 : 0 ≤ (x3_1 : Int) := of_decide_eq_true (by first | (with_reducible assumption) | assumption)
      have q517 : x3_1 < (l0.length : Int) := of_decide_eq_true (by first | (with_reducible assumption) | assumption)
      obtain ⟨ad517, A517_5, c517_5, e517, hx517_0, hx517_1, hx517_2, hx517_3, hx517_4, hx517_5, hx517_6, hx517_7, hx517_8, hl517_5, hi517_5⟩ := at_T169 HR0.out x3_1 p517 q517
      cases e517
      replace hx517_0 := hx_ HB hx517_0
      replace hx517_1 := hx_ HB hx517_1
      replace hx517_2 := hx_ HB hx517_2
      replace hx517_3 := hx_ HB hx517_3
      replace hx517_4 := hx_ HB hx517_4
      replace hx517_5 := hx_ HB hx517_5
      replace hx517_6 := hx_ HB hx517_6
      replace hx517_7 := hx_ HB hx517_7
      replace hx517_8 := hx_ HB hx517_8
      have HR517_5 := Aside0.mk hi517_5
      have HC517_5 := Aside0.mk hl517_5
      clear hi517_5 hl517_5
      replace p517 := eq_true p517
      replace q517 := eq_true q517
      go_wp2_with (first | ((with_reducible refine gate_callee (f := 108) rfl ?_); refine goesL_ (some 15) rfl rfl Try.func108 KR rfl #[.agg #[.int .i64 ((rd_T169 l0 x3_1).f0.f0), .int .i64 ((rd_T169 l0 x3_1).f0.f1), .int .i64 ((rd_T169 l0 x3_1).f0.f2)]] rfl AR ?_; (with_reducible refine (spec_IsAddress.calls ((rd_T169 l0 x3_1).f0.f0) ((rd_T169 l0 x3_1).f0.f1) ((rd_T169 l0 x3_1).f0.f2) false _ A4.out).mono ?_); rintro e w15 ⟨rfl, hb⟩; refine ⟨_, rfl, ?_⟩; replace HB := bs HB hb; (try clear hb); (try clear hb2); (try clear hk); (try clear hi)))
      go_ret
      exact ⟨RT, PB⟩
    ·rw [if_neg c3] at H
     exact absurd H (by simp)
   ·rw [if_neg c2] at H
    have c2b0 : decide (x3_1 < (l0.length : Int)) = false := decide_eq_false c2
    clear c2
    obtain rfl := Option.some.inj H
    go_wp2
    go_ret
    exact ⟨RT, PB⟩

/-! ### spec_l11All: function 92 -/
def spec_l11All.l0 : Nat → List Int → Int → Int → Option (Bool)
  | 0, _, _, _ => none
  | k + 1, x0, x1, x5 => if x5 < (x0.length : Int) then (if 0 ≤ x5 then ((spec_l1In.f (rd x0 x5) 0 999).bind fun t524 => (if t524 = true then (spec_l11All.l0 k x0 x1 (wrap64 (x5 + 1))) else (some false))) else (none)) else (some ((x0.length : Int) == x1))
def spec_l11All.f (k : Nat) (l0 : List Int) (a1 : Int) : Option (Bool) := spec_l11All.l0 k l0 a1 0
set_option maxHeartbeats 8000000 in
set_option maxRecDepth 100000 in
theorem spec_l11All.calls (k : Nat) (A0 : Option Addr) (c0 : Nat) (l0 : List Int) (a1 : Int) (r : Bool) (w : World) (hr0 : Kd.C (Kd.int .i64) w A0 l0.length l0) (hc0 : l0.length ≤ c0) (h : spec_l11All.f k l0 a1 = some r) :
  Calls Try.prog 92 #[.slice A0 l0.length c0, .int .i64 a1] w fun e w' => e = .returned (.bool r) ∧ Drawn0 w w' := by
 have HR0 := Aside0.mk hr0
 have HC0 := Aside0.mk hc0
 clear hr0 hc0
 have H : (spec_l11All.l0 k l0 a1 0) = some r := h
 clear h
 have H' := Aside0.mk H
 clear H
 go_enter Try.func92, Try.ntmps92
 go_wp2
 go_loopg [5] k (fun kq v5 w' => ∃ (x5_1 : Int), v5 = .int .i64 x5_1 ∧ Aside0 (spec_l11All.l0 kq l0 a1 x5_1 = some r) ∧ Aside0 (kq ≤ k) ∧ Drawn0 w w')
 case atStart => exact ⟨(0), (by first | rfl | (simp; done) | (simp [*]; done)), H', ⟨Nat.le_refl _⟩, by repeat (first | exact Drawn0.refl _ | apply Drawn0.step)⟩
 case round =>
  clear H'
  try clear p2
  obtain ⟨x5_1, rfl, HA, HK1, ⟨m1, rfl⟩⟩ := hrel
  cases gk with
  | zero => exact absurd HA.out (by simp [spec_l11All.l0])
  | succ k1 =>
   have H := HA.out
   clear HA
   simp only [spec_l11All.l0] at H
   by_cases c3 : x5_1 < (l0.length : Int)
   ·rw [if_pos c3] at H
    have c3b0 : decide (x5_1 < (l0.length : Int)) = true := decide_eq_true c3
    clear c3
    by_cases c4 : 0 ≤ x5_1
    ·rw [if_pos c4] at H
     have c4b0 : decide (0 ≤ x5_1) = true := decide_eq_true c4
     clear c4
     replace H := Option.bind_eq_some_iff.mp H
     obtain ⟨t524, A50, H⟩ := H
     replace H : (if t524 = true then (spec_l11All.l0 k1 l0 a1 (wrap64 (x5_1 + 1))) else (some false)) = some r := H
     have A5 := Aside0.mk A50
     clear A50
     by_cases c6 : t524 = true
     ·subst c6
      have H1 : (spec_l11All.l0 k1 l0 a1 (wrap64 (x5_1 + 1))) = some r := by rw [if_pos rfl] at H; exact H
      clear H
      have H := H1
      clear H1
      have H' := Aside0.mk H
      clear H
      have p523 : 0 ≤ (x5_1 : Int) := of_decide_eq_true (by first | (with_reducible assumption) | assumption)
      have q523 : x5_1 < (l0.length : Int) := of_decide_eq_true (by first | (with_reducible assumption) | assumption)
      obtain ⟨ad523, e523, hx523_0⟩ := Kd.at_int HR0.out x5_1 p523 q523
      cases e523
      replace p523 := eq_true p523
      replace q523 := eq_true q523
      go_wp2_with (first | ((with_reducible refine gate_callee (f := 91) rfl ?_); refine goesL_ (some 16) rfl rfl Try.func91 KR rfl #[.int .i64 (rd l0 x5_1), .int .i64 0, .int .i64 999] rfl AR ?_; (with_reducible refine (spec_l1In.calls (rd l0 x5_1) 0 999 true _ A5.out).mono ?_); rintro e w' ⟨rfl, ⟨nd, rfl⟩⟩; refine ⟨_, rfl, ?_⟩))
      go_roundg k1
      case measure => have := HK1.out; omega
      case rel => exact ⟨(wrap64 (x5_1 + 1)), (by first | rfl | (simp; done) | (simp [*]; done)), H', ⟨by have := HK1.out; omega⟩, by repeat (first | exact Drawn0.refl _ | apply Drawn0.step)⟩
     ·replace c6 := Bool.eq_false_iff.mpr c6
      subst c6
      have H1 : (some false) = some r := by rw [if_neg (show ¬ (false = true) by decide)] at H; exact H
      clear H
      have H := H1
      clear H1
      obtain rfl := Option.some.inj H
      have p523 : 0 ≤ (x5_1 : Int) := of_decide_eq_true (by first | (with_reducible assumption) | assumption)
      have q523 : x5_1 < (l0.length : Int) := of_decide_eq_true (by first | (with_reducible assumption) | assumption)
      obtain ⟨ad523, e523, hx523_0⟩ := Kd.at_int HR0.out x5_1 p523 q523
      cases e523
      replace p523 := eq_true p523
      replace q523 := eq_true q523
      go_wp2_with (first | ((with_reducible refine gate_callee (f := 91) rfl ?_); refine goesL_ (some 16) rfl rfl Try.func91 KR rfl #[.int .i64 (rd l0 x5_1), .int .i64 0, .int .i64 999] rfl AR ?_; (with_reducible refine (spec_l1In.calls (rd l0 x5_1) 0 999 false _ A5.out).mono ?_); rintro e w' ⟨rfl, ⟨nd, rfl⟩⟩; refine ⟨_, rfl, ?_⟩))
      go_ret
      exact ⟨by first | rfl | (simp; done) | (simp [*]; done), by repeat (first | exact Drawn0.refl _ | apply Drawn0.step)⟩
    ·rw [if_neg c4] at H
     exact absurd H (by simp)
   ·rw [if_neg c3] at H
    have c3b0 : decide (x5_1 < (l0.length : Int)) = false := decide_eq_false c3
    clear c3
    obtain rfl := Option.some.inj H
    go_wp2
    go_ret
    exact ⟨by first | rfl | (simp; done) | (simp [*]; done), by repeat (first | exact Drawn0.refl _ | apply Drawn0.step)⟩

end Go.Proofs.Ytgcamebeonodeaa.MFnVisits
