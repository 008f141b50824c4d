-- Written by a program of this session out of the translation's own print. Not trusted: Lean checks it.
import Derived.Test.YtmcfdpodoebokaaShr2
import Derived.Test.YtmcfdpodoebokaaMFnExactAddCapturesx0
import Derived.Test.YtmcfdpodoebokaaMFnExactAddCapturesx2
import Derived.Test.YtmcfdpodoebokaaMFnExactAddCapturesx1
namespace Go.Proofs.Ytmcfdpodoebokaa.MFnExactAddCaptures
open Go.RowKit Go.Proofs.YtmcfdpodoebokaaW.PrintWords Go.Proofs.YtmcfdpodoebokaaW.PrintLast Go.Proofs.YtmcfdpodoebokaaW.PrintMore
attribute [local go_sem] max2_int min2_int max_two min_two max_three min_three max_four min_four   -- for this text's walks alone
set_option linter.unusedVariables false
set_option linter.unusedSimpArgs false

abbrev b3_0 : Array Bool := mkB 13 8191
abbrev b3_1 : Array Bool := mkB 13 4095
abbrev b3_2 : Array Bool := mkB 13 2047
abbrev b3_3 : Array Bool := mkB 13 1023
abbrev b3_4 : Array Bool := mkB 13 511
abbrev b3_11 : Array Bool := mkB 13 31
abbrev b3_12 : Array Bool := mkB 13 15
abbrev b3_13 : Array Bool := mkB 13 7
abbrev b3_14 : Array Bool := mkB 13 3
abbrev b3_15 : Array Bool := mkB 13 1
abbrev b3_16 : Array Bool := #[false, false, false, false, false, false, false, false, false, false, false, false, false]
/-! ### spec_AreCaptures: function 14 -/
def spec_AreCaptures.l0 : Nat → List (S45) → Int → Option (Bool)
  | 0, _, _ => none
  | k + 1, x0, x3 => if x3 < (x0.length : Int) then (if 0 ≤ x3 then ((spec_IsAddress.f ((rd_T45 x0 x3).f0.f0) ((rd_T45 x0 x3).f0.f1) ((rd_T45 x0 x3).f0.f2)).bind fun t150 => (if t150 = true then ((spec_l1In.f ((rd_T45 x0 x3).f1) 0 2000).bind fun t152 => (if t152 = true then ((spec_IsResource.f k ((rd_T45 x0 x3).f2.f0) ((rd_T45 x0 x3).f2.f1) ((rd_T45 x0 x3).f2.f2.f0) ((rd_T45 x0 x3).f2.f2.f1) ((rd_T45 x0 x3).f2.f2.f2)).bind fun t154 => (if t154 = true then (spec_AreCaptures.l0 k x0 (wrap64 (x3 + 1))) else (some false))) else (some false))) else (some false))) else (none)) else (some (decide ((x0.length : Int) ≤ 20)))
def spec_AreCaptures.f (k : Nat) (l0 : List (S45)) : Option (Bool) := spec_AreCaptures.l0 k l0 0
set_option maxHeartbeats 8000000 in
set_option maxRecDepth 100000 in
theorem spec_AreCaptures.calls (k : Nat) (A0 : Option Addr) (c0 : Nat) (l0 : List (S45)) (r : Bool) (w : World) (hr0 : Kd.C k45 w A0 l0.length l0) (hc0 : l0.length ≤ c0) (h : spec_AreCaptures.f k l0 = some r) :
  Calls Try.prog 14 #[.slice A0 l0.length c0] w fun e w' => e = .returned (.bool r) ∧ Below w.heap.size w w' := by
 have hu41 := Try.underlying41
 have hu43 := Try.underlying43
 have HR0 := Aside0.mk hr0
 have HC0 := Aside0.mk hc0
 clear hr0 hc0
 have HB := ak (Below.refl w.heap.size w)
 have H : (spec_AreCaptures.l0 k l0 0) = some r := h
 clear h
 have H' := Aside0.mk H
 clear H
 go_enter Try.func14, Try.ntmps14
 go_wp2
 go_loopg [3] k (fun kq v3 w' => ∃ (x3_1 : Int), v3 = .int .i64 x3_1 ∧ Aside0 (spec_AreCaptures.l0 kq l0 x3_1 = some r) ∧ Aside0 (kq ≤ k) ∧ Aside0 (Below w.heap.size w w'))
 case atStart => exact ⟨(0), (by first | rfl | (simp; done) | (simp [*]; done)), H', ⟨Nat.le_refl _⟩, ⟨PB⟩⟩
 case round =>
  clear H'
  try clear c1
  obtain ⟨x3_1, rfl, HA, HK1, HB⟩ := hrel
  cases gk with
  | zero => exact absurd HA.out (by simp [spec_AreCaptures.l0])
  | succ k1 =>
   have H := HA.out
   clear HA
   simp only [spec_AreCaptures.l0] at H
   by_cases c2 : x3_1 < (l0.length : Int)
   ·rw [if_pos c2] at H
    have c2b0 : decide (x3_1 < (l0.length : Int)) = true := decide_eq_true c2
    clear c2
    by_cases c3 : 0 ≤ x3_1
    ·rw [if_pos c3] at H
     have c3b0 : decide (0 ≤ x3_1) = true := decide_eq_true c3
     clear c3
     replace H := Option.bind_eq_some_iff.mp H
     obtain ⟨t150, A40, H⟩ := H
     replace H : (if t150 = true then ((spec_l1In.f ((rd_T45 l0 x3_1).f1) 0 2000).bind fun t152 => (if t152 = true then ((spec_IsResource.f k1 ((rd_T45 l0 x3_1).f2.f0) ((rd_T45 l0 x3_1).f2.f1) ((rd_T45 l0 x3_1).f2.f2.f0) ((rd_T45 l0 x3_1).f2.f2.f1) ((rd_T45 l0 x3_1).f2.f2.f2)).bind fun t154 => (if t154 = true then (spec_AreCaptures.l0 k1 l0 (wrap64 (x3_1 + 1))) else (some false))) else (some false))) else (some false)) = some r := H
     have A4 := Aside0.mk A40
     clear A40
     by_cases c5 : t150 = true
     ·subst c5
      have H1 : ((spec_l1In.f ((rd_T45 l0 x3_1).f1) 0 2000).bind fun t152 => (if t152 = true then ((spec_IsResource.f k1 ((rd_T45 l0 x3_1).f2.f0) ((rd_T45 l0 x3_1).f2.f1) ((rd_T45 l0 x3_1).f2.f2.f0) ((rd_T45 l0 x3_1).f2.f2.f1) ((rd_T45 l0 x3_1).f2.f2.f2)).bind fun t154 => (if t154 = true then (spec_AreCaptures.l0 k1 l0 (wrap64 (x3_1 + 1))) else (some false))) else (some false))) = some r := by rw [if_pos rfl] at H; exact H
      clear H
      have H := H1
      clear H1
      replace H := Option.bind_eq_some_iff.mp H
      obtain ⟨t152, A60, H⟩ := H
      replace H : (if t152 = true then ((spec_IsResource.f k1 ((rd_T45 l0 x3_1).f2.f0) ((rd_T45 l0 x3_1).f2.f1) ((rd_T45 l0 x3_1).f2.f2.f0) ((rd_T45 l0 x3_1).f2.f2.f1) ((rd_T45 l0 x3_1).f2.f2.f2)).bind fun t154 => (if t154 = true then (spec_AreCaptures.l0 k1 l0 (wrap64 (x3_1 + 1))) else (some false))) else (some false)) = some r := H
      have A6 := Aside0.mk A60
      clear A60
      by_cases c7 : t152 = true
      ·subst c7
       have H1 : ((spec_IsResource.f k1 ((rd_T45 l0 x3_1).f2.f0) ((rd_T45 l0 x3_1).f2.f1) ((rd_T45 l0 x3_1).f2.f2.f0) ((rd_T45 l0 x3_1).f2.f2.f1) ((rd_T45 l0 x3_1).f2.f2.f2)).bind fun t154 => (if t154 = true then (spec_AreCaptures.l0 k1 l0 (wrap64 (x3_1 + 1))) else (some false))) = some r := by rw [if_pos rfl] at H; exact H
       clear H
       have H := H1
       clear H1
       replace H := Option.bind_eq_some_iff.mp H
       obtain ⟨t154, A80, H⟩ := H
       replace H : (if t154 = true then (spec_AreCaptures.l0 k1 l0 (wrap64 (x3_1 + 1))) else (some false)) = some r := H
       have A8 := Aside0.mk A80
       clear A80
       by_cases c9 : t154 = true
       ·subst c9
        have H1 : (spec_AreCaptures.l0 k1 l0 (wrap64 (x3_1 + 1))) = some r := by rw [if_pos rfl] at H; exact H
        clear H
        have H := H1
        clear H1
        have H' := Aside0.mk H
        clear H
        have p149 : 0 ≤ (x3_1 : Int) := of_decide_eq_true (by first | (with_reducible assumption) | assumption)
        have q149 : x3_1 < (l0.length : Int) := of_decide_eq_true (by first | (with_reducible assumption) | assumption)
        obtain ⟨ad149, A149_5, c149_5, e149, hx149_0, hx149_1, hx149_2, hx149_3, hx149_4, hx149_5, hx149_6, hx149_7, hx149_8, hl149_5, hi149_5⟩ := at_T45 HR0.out x3_1 p149 q149
        cases e149
        replace hx149_0 := hx_ HB hx149_0
        replace hx149_1 := hx_ HB hx149_1
        replace hx149_2 := hx_ HB hx149_2
        replace hx149_3 := hx_ HB hx149_3
        replace hx149_4 := hx_ HB hx149_4
        replace hx149_5 := hx_ HB hx149_5
        replace hx149_6 := hx_ HB hx149_6
        replace hx149_7 := hx_ HB hx149_7
        replace hx149_8 := hx_ HB hx149_8
        have HR149_5 := Aside0.mk hi149_5
        have HC149_5 := Aside0.mk hl149_5
        clear hi149_5 hl149_5
        replace p149 := eq_true p149
        replace q149 := eq_true q149
        go_wp2_with (first | ((with_reducible refine gate_callee (f := 26) rfl ?_); refine goesL_ (some 15) rfl rfl Try.func26 KR rfl #[.agg #[.int .i64 ((rd_T45 l0 x3_1).f0.f0), .int .i64 ((rd_T45 l0 x3_1).f0.f1), .int .i64 ((rd_T45 l0 x3_1).f0.f2)]] rfl AR ?_; (with_reducible refine (spec_IsAddress.calls ((rd_T45 l0 x3_1).f0.f0) ((rd_T45 l0 x3_1).f0.f1) ((rd_T45 l0 x3_1).f0.f2) true _ A4.out).mono ?_); rintro e w10 ⟨rfl, hb⟩; refine ⟨_, rfl, ?_⟩; replace HB := bs HB hb; (try clear hb); (try clear hb2); (try clear hk); (try clear hi); have p151 : 0 ≤ (x3_1 : Int) := of_decide_eq_true (by first | (with_reducible assumption) | assumption); have q151 : x3_1 < (l0.length : Int) := of_decide_eq_true (by first | (with_reducible assumption) | assumption); obtain ⟨ad151, A151_5, c151_5, e151, hx151_0, hx151_1, hx151_2, hx151_3, hx151_4, hx151_5, hx151_6, hx151_7, hx151_8, hl151_5, hi151_5⟩ := at_T45 HR0.out x3_1 p151 q151; obtain rfl : ad149 = ad151 := (by injection e151); replace hx151_0 := hx_ HB hx151_0; replace hx151_1 := hx_ HB hx151_1; replace hx151_2 := hx_ HB hx151_2; replace hx151_3 := hx_ HB hx151_3; replace hx151_4 := hx_ HB hx151_4; replace hx151_5 := hx_ HB hx151_5; replace hx151_6 := hx_ HB hx151_6; replace hx151_7 := hx_ HB hx151_7; replace hx151_8 := hx_ HB hx151_8; have HR151_5 := Aside0.mk hi151_5; have HC151_5 := Aside0.mk hl151_5; clear hi151_5 hl151_5; replace p151 := eq_true p151; replace q151 := eq_true q151) | (go_at_call 27; (with_reducible refine (spec_l1In.calls ((rd_T45 l0 x3_1).f1) 0 2000 true _ A6.out).mono ?_); rintro e w' ⟨rfl, ⟨nd, rfl⟩⟩; have p153 : 0 ≤ (x3_1 : Int) := of_decide_eq_true (by first | (with_reducible assumption) | assumption); have q153 : x3_1 < (l0.length : Int) := of_decide_eq_true (by first | (with_reducible assumption) | assumption); obtain ⟨ad153, A153_5, c153_5, e153, hx153_0, hx153_1, hx153_2, hx153_3, hx153_4, hx153_5, hx153_6, hx153_7, hx153_8, hl153_5, hi153_5⟩ := at_T45 HR0.out x3_1 p153 q153; obtain rfl : ad149 = ad153 := (by injection e153); replace hx153_0 := hx_ HB hx153_0; replace hx153_1 := hx_ HB hx153_1; replace hx153_2 := hx_ HB hx153_2; replace hx153_3 := hx_ HB hx153_3; replace hx153_4 := hx_ HB hx153_4; replace hx153_5 := hx_ HB hx153_5; replace hx153_6 := hx_ HB hx153_6; replace hx153_7 := hx_ HB hx153_7; replace hx153_8 := hx_ HB hx153_8; have HR153_5 := Aside0.mk hi153_5; have HC153_5 := Aside0.mk hl153_5; clear hi153_5 hl153_5; replace p153 := eq_true p153; replace q153 := eq_true q153; have ea_ := Option.some.inj (hx151_5.symm.trans hx153_5); injection ea_ with ea_ en_ ec_; subst ea_; subst ec_; clear en_) | (go_at_call 28; (with_reducible refine (spec_IsResource.calls k1 ((rd_T45 l0 x3_1).f2.f0) _ _ ((rd_T45 l0 x3_1).f2.f1) ((rd_T45 l0 x3_1).f2.f2.f0) ((rd_T45 l0 x3_1).f2.f2.f1) ((rd_T45 l0 x3_1).f2.f2.f2) true _ ?side1 ?side2 A8.out).mono ?_); (case side1 => repeat (first | exact (Kd.C_below HR153_5.out PB) | (with_reducible refine Kd.C_alloc ?_ _) | (with_reducible refine Kd.C_drewN ?_ _) | (with_reducible refine Kd.C_drew ?_))); (case side2 => exact HC153_5.out); rintro e w11 ⟨rfl, hb⟩; replace HB := bs HB hb; (try clear hb); (try clear hb2); (try clear hk); (try clear hi)))
        go_roundg k1
        case measure => have := HK1.out; omega
        case rel => exact ⟨(wrap64 (x3_1 + 1)), (by first | rfl | (simp; done) | (simp [*]; done)), H', ⟨by have := HK1.out; omega⟩, ⟨PB⟩⟩
       ·replace c9 := Bool.eq_false_iff.mpr c9
        subst c9
        have H1 : (some false) = some r := by rw [if_neg (show ¬ (false = true) by decide)] at H; exact H
        clear H
        have H := H1
        clear H1
        obtain rfl := Option.some.inj H
        have p149 : 0 ≤ (x3_1 : Int) := of_decide_eq_true (by first | (with_reducible assumption) | assumption)
        have q149 : x3_1 < (l0.length : Int) := of_decide_eq_true (by first | (with_reducible assumption) | assumption)
        obtain ⟨ad149, A149_5, c149_5, e149, hx149_0, hx149_1, hx149_2, hx149_3, hx149_4, hx149_5, hx149_6, hx149_7, hx149_8, hl149_5, hi149_5⟩ := at_T45 HR0.out x3_1 p149 q149
        cases e149
        replace hx149_0 := hx_ HB hx149_0
        replace hx149_1 := hx_ HB hx149_1
        replace hx149_2 := hx_ HB hx149_2
        replace hx149_3 := hx_ HB hx149_3
        replace hx149_4 := hx_ HB hx149_4
        replace hx149_5 := hx_ HB hx149_5
        replace hx149_6 := hx_ HB hx149_6
        replace hx149_7 := hx_ HB hx149_7
        replace hx149_8 := hx_ HB hx149_8
        have HR149_5 := Aside0.mk hi149_5
        have HC149_5 := Aside0.mk hl149_5
        clear hi149_5 hl149_5
        replace p149 := eq_true p149
        replace q149 := eq_true q149
        go_wp2_with (first | ((with_reducible refine gate_callee (f := 26) rfl ?_); refine goesL_ (some 15) rfl rfl Try.func26 KR rfl #[.agg #[.int .i64 ((rd_T45 l0 x3_1).f0.f0), .int .i64 ((rd_T45 l0 x3_1).f0.f1), .int .i64 ((rd_T45 l0 x3_1).f0.f2)]] rfl AR ?_; (with_reducible refine (spec_IsAddress.calls ((rd_T45 l0 x3_1).f0.f0) ((rd_T45 l0 x3_1).f0.f1) ((rd_T45 l0 x3_1).f0.f2) true _ A4.out).mono ?_); rintro e w12 ⟨rfl, hb⟩; refine ⟨_, rfl, ?_⟩; replace HB := bs HB hb; (try clear hb); (try clear hb2); (try clear hk); (try clear hi); have p151 : 0 ≤ (x3_1 : Int) := of_decide_eq_true (by first | (with_reducible assumption) | assumption); have q151 : x3_1 < (l0.length : Int) := of_decide_eq_true (by first | (with_reducible assumption) | assumption); obtain ⟨ad151, A151_5, c151_5, e151, hx151_0, hx151_1, hx151_2, hx151_3, hx151_4, hx151_5, hx151_6, hx151_7, hx151_8, hl151_5, hi151_5⟩ := at_T45 HR0.out x3_1 p151 q151; obtain rfl : ad149 = ad151 := (by injection e151); replace hx151_0 := hx_ HB hx151_0; replace hx151_1 := hx_ HB hx151_1; replace hx151_2 := hx_ HB hx151_2; replace hx151_3 := hx_ HB hx151_3; replace hx151_4 := hx_ HB hx151_4; replace hx151_5 := hx_ HB hx151_5; replace hx151_6 := hx_ HB hx151_6; replace hx151_7 := hx_ HB hx151_7; replace hx151_8 := hx_ HB hx151_8; have HR151_5 := Aside0.mk hi151_5; have HC151_5 := Aside0.mk hl151_5; clear hi151_5 hl151_5; replace p151 := eq_true p151; replace q151 := eq_true q151) | (go_at_call 27; (with_reducible refine (spec_l1In.calls ((rd_T45 l0 x3_1).f1) 0 2000 true _ A6.out).mono ?_); rintro e w' ⟨rfl, ⟨nd, rfl⟩⟩; have p153 : 0 ≤ (x3_1 : Int) := of_decide_eq_true (by first | (with_reducible assumption) | assumption); have q153 : x3_1 < (l0.length : Int) := of_decide_eq_true (by first | (with_reducible assumption) | assumption); obtain ⟨ad153, A153_5, c153_5, e153, hx153_0, hx153_1, hx153_2, hx153_3, hx153_4, hx153_5, hx153_6, hx153_7, hx153_8, hl153_5, hi153_5⟩ := at_T45 HR0.out x3_1 p153 q153; obtain rfl : ad149 = ad153 := (by injection e153); replace hx153_0 := hx_ HB hx153_0; replace hx153_1 := hx_ HB hx153_1; replace hx153_2 := hx_ HB hx153_2; replace hx153_3 := hx_ HB hx153_3; replace hx153_4 := hx_ HB hx153_4; replace hx153_5 := hx_ HB hx153_5; replace hx153_6 := hx_ HB hx153_6; replace hx153_7 := hx_ HB hx153_7; replace hx153_8 := hx_ HB hx153_8; have HR153_5 := Aside0.mk hi153_5; have HC153_5 := Aside0.mk hl153_5; clear hi153_5 hl153_5; replace p153 := eq_true p153; replace q153 := eq_true q153; have ea_ := Option.some.inj (hx151_5.symm.trans hx153_5); injection ea_ with ea_ en_ ec_; subst ea_; subst ec_; clear en_) | (go_at_call 28; (with_reducible refine (spec_IsResource.calls k1 ((rd_T45 l0 x3_1).f2.f0) _ _ ((rd_T45 l0 x3_1).f2.f1) ((rd_T45 l0 x3_1).f2.f2.f0) ((rd_T45 l0 x3_1).f2.f2.f1) ((rd_T45 l0 x3_1).f2.f2.f2) false _ ?side1 ?side2 A8.out).mono ?_); (case side1 => repeat (first | exact (Kd.C_below HR153_5.out PB) | (with_reducible refine Kd.C_alloc ?_ _) | (with_reducible refine Kd.C_drewN ?_ _) | (with_reducible refine Kd.C_drew ?_))); (case side2 => exact HC153_5.out); rintro e w13 ⟨rfl, hb⟩; replace HB := bs HB hb; (try clear hb); (try clear hb2); (try clear hk); (try clear hi)))
        go_ret
        exact ⟨RT, PB⟩
      ·replace c7 := Bool.eq_false_iff.mpr c7
       subst c7
       have H1 : (some false) = some r := by rw [if_neg (show ¬ (false = true) by decide)] at H; exact H
       clear H
       have H := H1
       clear H1
       obtain rfl := Option.some.inj H
       have p149 : 0 ≤ (x3_1 : Int) := of_decide_eq_true (by first | (with_reducible assumption) | assumption)
       have q149 : x3_1 < (l0.length : Int) := of_decide_eq_true (by first | (with_reducible assumption) | assumption)
       obtain ⟨ad149, A149_5, c149_5, e149, hx149_0, hx149_1, hx149_2, hx149_3, hx149_4, hx149_5, hx149_6, hx149_7, hx149_8, hl149_5, hi149_5⟩ := at_T45 HR0.out x3_1 p149 q149
       cases e149
       replace hx149_0 := hx_ HB hx149_0
       replace hx149_1 := hx_ HB hx149_1
       replace hx149_2 := hx_ HB hx149_2
       replace hx149_3 := hx_ HB hx149_3
       replace hx149_4 := hx_ HB hx149_4
       replace hx149_5 := hx_ HB hx149_5
       replace hx149_6 := hx_ HB hx149_6
       replace hx149_7 := hx_ HB hx149_7
       replace hx149_8 := hx_ HB hx149_8
       have HR149_5 := Aside0.mk hi149_5
       have HC149_5 := Aside0.mk hl149_5
       clear hi149_5 hl149_5
       replace p149 := eq_true p149
       replace q149 := eq_true q149
       go_wp2_with (first | ((with_reducible refine gate_callee (f := 26) rfl ?_); refine goesL_ (some 15) rfl rfl Try.func26 KR rfl #[.agg #[.int .i64 ((rd_T45 l0 x3_1).f0.f0), .int .i64 ((rd_T45 l0 x3_1).f0.f1), .int .i64 ((rd_T45 l0 x3_1).f0.f2)]] rfl AR ?_; (with_reducible refine (spec_IsAddress.calls ((rd_T45 l0 x3_1).f0.f0) ((rd_T45 l0 x3_1).f0.f1) ((rd_T45 l0 x3_1).f0.f2) true _ A4.out).mono ?_); rintro e w14 ⟨rfl, hb⟩; refine ⟨_, rfl, ?_⟩; replace HB := bs HB hb; (try clear hb); (try clear hb2); (try clear hk); (try clear hi); have p151 : 0 ≤ (x3_1 : Int) := of_decide_eq_true (by first | (with_reducible assumption) | assumption); have q151 : x3_1 < (l0.length : Int) := of_decide_eq_true (by first | (with_reducible assumption) | assumption); obtain ⟨ad151, A151_5, c151_5, e151, hx151_0, hx151_1, hx151_2, hx151_3, hx151_4, hx151_5, hx151_6, hx151_7, hx151_8, hl151_5, hi151_5⟩ := at_T45 HR0.out x3_1 p151 q151; obtain rfl : ad149 = ad151 := (by injection e151); replace hx151_0 := hx_ HB hx151_0; replace hx151_1 := hx_ HB hx151_1; replace hx151_2 := hx_ HB hx151_2; replace hx151_3 := hx_ HB hx151_3; replace hx151_4 := hx_ HB hx151_4; replace hx151_5 := hx_ HB hx151_5; replace hx151_6 := hx_ HB hx151_6; replace hx151_7 := hx_ HB hx151_7; replace hx151_8 := hx_ HB hx151_8; have HR151_5 := Aside0.mk hi151_5; have HC151_5 := Aside0.mk hl151_5; clear hi151_5 hl151_5; replace p151 := eq_true p151; replace q151 := eq_true q151) | (go_at_call 27; (with_reducible refine (spec_l1In.calls ((rd_T45 l0 x3_1).f1) 0 2000 false _ A6.out).mono ?_); rintro e w' ⟨rfl, ⟨nd, rfl⟩⟩))
       go_ret
       exact ⟨RT, PB⟩
     ·replace c5 := Bool.eq_false_iff.mpr c5
      subst c5
      have H1 : (some false) = some r := by rw [if_neg (show ¬ (false = true) by decide)] at H; exact H
      clear H
      have H := H1
      clear H1
      obtain rfl := Option.some.inj H
      have p149 : 0 ≤ (x3_1 : Int) := of_decide_eq_true (by first | (with_reducible assumption) | assumption)
      have q149 : x3_1 < (l0.length : Int) := of_decide_eq_true (by first | (with_reducible assumption) | assumption)
      obtain ⟨ad149, A149_5, c149_5, e149, hx149_0, hx149_1, hx149_2, hx149_3, hx149_4, hx149_5, hx149_6, hx149_7, hx149_8, hl149_5, hi149_5⟩ := at_T45 HR0.out x3_1 p149 q149
      cases e149
      replace hx149_0 := hx_ HB hx149_0
      replace hx149_1 := hx_ HB hx149_1
      replace hx149_2 := hx_ HB hx149_2
      replace hx149_3 := hx_ HB hx149_3
      replace hx149_4 := hx_ HB hx149_4
      replace hx149_5 := hx_ HB hx149_5
      replace hx149_6 := hx_ HB hx149_6
      replace hx149_7 := hx_ HB hx149_7
      replace hx149_8 := hx_ HB hx149_8
      have HR149_5 := Aside0.mk hi149_5
      have HC149_5 := Aside0.mk hl149_5
      clear hi149_5 hl149_5
      replace p149 := eq_true p149
      replace q149 := eq_true q149
      go_wp2_with (first | ((with_reducible refine gate_callee (f := 26) rfl ?_); refine goesL_ (some 15) rfl rfl Try.func26 KR rfl #[.agg #[.int .i64 ((rd_T45 l0 x3_1).f0.f0), .int .i64 ((rd_T45 l0 x3_1).f0.f1), .int .i64 ((rd_T45 l0 x3_1).f0.f2)]] rfl AR ?_; (with_reducible refine (spec_IsAddress.calls ((rd_T45 l0 x3_1).f0.f0) ((rd_T45 l0 x3_1).f0.f1) ((rd_T45 l0 x3_1).f0.f2) false _ A4.out).mono ?_); rintro e w15 ⟨rfl, hb⟩; refine ⟨_, rfl, ?_⟩; replace HB := bs HB hb; (try clear hb); (try clear hb2); (try clear hk); (try clear hi)))
      go_ret
      exact ⟨RT, PB⟩
    ·rw [if_neg c3] at H
     exact absurd H (by simp)
   ·rw [if_neg c2] at H
    have c2b0 : decide (x3_1 < (l0.length : Int)) = false := decide_eq_false c2
    clear c2
    obtain rfl := Option.some.inj H
    go_wp2
    go_ret
    exact ⟨RT, PB⟩

/-! ### spec_AddCaptures: function 5 -/
mutual
def spec_AddCaptures.l0 : Nat → List (S45) → List (S45) → List (S45) → Int → Option ((List (S45)) × Bool)
  | 0, _, _, _, _ => none
  | k + 1, x0, x1, x6, x7 => if x7 < (x1.length : Int) then (spec_AddCaptures.l1 k x0 x1 x6 x7 false 0) else ((spec_AreCaptures.f k x6).bind fun t171 => (if t171 = true then (some (x6, true)) else ((spec_l15Copy.f k x0).bind fun t172 => (some (t172, false)))))
def spec_AddCaptures.l1 : Nat → List (S45) → List (S45) → List (S45) → Int → Bool → Int → Option ((List (S45)) × Bool)
  | 0, _, _, _, _, _, _ => none
  | k + 1, x0, x1, x6, x7, x8, x9 => if x9 < (x6.length : Int) then (if x8 = true then (spec_AddCaptures.l1 k x0 x1 x6 x7 true (wrap64 (x9 + 1))) else (if 0 ≤ x9 then (if 0 ≤ x7 then (if x7 < (x1.length : Int) then ((spec_l15Same.f k ((rd_T45 x6 x9).f0.f0) ((rd_T45 x6 x9).f0.f1) ((rd_T45 x6 x9).f0.f2) ((rd_T45 x6 x9).f1) ((rd_T45 x6 x9).f2.f0) ((rd_T45 x6 x9).f2.f1) ((rd_T45 x6 x9).f2.f2.f0) ((rd_T45 x6 x9).f2.f2.f1) ((rd_T45 x6 x9).f2.f2.f2) ((rd_T45 x1 x7).f0.f0) ((rd_T45 x1 x7).f0.f1) ((rd_T45 x1 x7).f0.f2) ((rd_T45 x1 x7).f1) ((rd_T45 x1 x7).f2.f0) ((rd_T45 x1 x7).f2.f1) ((rd_T45 x1 x7).f2.f2.f0) ((rd_T45 x1 x7).f2.f2.f1) ((rd_T45 x1 x7).f2.f2.f2)).bind fun t160 => (spec_AddCaptures.l1 k x0 x1 x6 x7 t160 (wrap64 (x9 + 1)))) else (none)) else (none)) else (none))) else (if x8 = true then (spec_AddCaptures.l0 k x0 x1 x6 (wrap64 (x7 + 1))) else (if 0 ≤ x7 then (if x7 ≤ (wrap64 (x7 + 1)) then (if (wrap64 (x7 + 1)) ≤ (x1.length : Int) then ((spec_l15Copy.f k ((x1.take ((wrap64 (x7 + 1)) : Int).toNat).drop (x7 : Int).toNat)).bind fun t165 => (if x6.length + t165.length < 1599289640401 then (spec_AddCaptures.l0 k x0 x1 (x6 ++ t165) (wrap64 (x7 + 1))) else (none))) else (none)) else (none)) else (none)))
end
def spec_AddCaptures.f (k : Nat) (l0 : List (S45)) (l1 : List (S45)) : Option ((List (S45)) × Bool) := (spec_l15Copy.f k l0).bind fun t155 => (spec_AddCaptures.l0 k l0 l1 t155 0)
def spec_AddCaptures.T9 : Bool × List (List Nat × List Nat) := (true, [([], []), ([0], [0]), ([1], [1]), ([1], [1]), ([2, 3, 1], [1, 2, 3]), ([4, 1], [1, 4]), ([1], [1]), ([1], [1]), ([6, 7, 1], [1, 6, 7]), ([8, 1], [1, 8]), ([5, 9, 1, 1], [1, 5, 9]), ([1, 10], [1, 10]), ([11, 10, 0, 1, 2, 3, 4, 5, 6, 7, 8, 9, 10, 11], [0, 11])])
def spec_AddCaptures.B9 : List Nat := [0, 1, 3, 3, 15, 31, 3, 3, 195, 451, 1023, 2047, 4095]
theorem spec_AddCaptures.tab9 : rtab .any (opsOf Try.f5 9) = spec_AddCaptures.T9 := by kernel_rfl
theorem spec_AddCaptures.bits9 : waitsOk spec_AddCaptures.T9.2 spec_AddCaptures.B9 = true := by kernel_rfl
set_option maxHeartbeats 8000000 in
set_option maxRecDepth 100000 in
theorem spec_AddCaptures.calls (k : Nat) (A0 : Option Addr) (c0 : Nat) (l0 : List (S45)) (A1 : Option Addr) (c1 : Nat) (l1 : List (S45)) (r1 : List (S45)) (r2 : Bool) (w : World) (hr0 : Kd.C k45 w A0 l0.length l0) (hc0 : l0.length ≤ c0) (hr1 : Kd.C k45 w A1 l1.length l1) (hc1 : l1.length ≤ c1) (h : spec_AddCaptures.f k l0 l1 = some (r1, r2)) :
  Calls Try.prog 5 #[.slice A0 l0.length c0, .slice A1 l1.length c1] w fun e w' => ∃ v0_ : Value, e = .returned (.tuple #[v0_, .bool r2]) ∧ Kd.N k45 45 w' w.heap.size (fun k_ => (w.heap.size ≤ k_)) v0_ r1 ∧ Below w.heap.size w w' := by
 have hu45 := Try.underlying45
 have HR0 := Aside0.mk hr0
 have HC0 := Aside0.mk hc0
 clear hr0 hc0
 have HR1 := Aside0.mk hr1
 have HC1 := Aside0.mk hc1
 clear hr1 hc1
 have HB := ak (Below.refl w.heap.size w)
 have H : ((spec_l15Copy.f k l0).bind fun t155 => (spec_AddCaptures.l0 k l0 l1 t155 0)) = some (r1, r2) := h
 clear h
 replace H := Option.bind_eq_some_iff.mp H
 obtain ⟨t155, A30, H⟩ := H
 replace H : (spec_AddCaptures.l0 k l0 l1 t155 0) = some (r1, r2) := H
 have A3 := Aside0.mk A30
 clear A30
 have H' := Aside0.mk H
 clear H
 go_enter Try.func5, Try.ntmps5
 go_wp2_with (first | ((with_reducible refine gate_callee (f := 12) rfl ?_); refine goesL_ (some 11) rfl rfl Try.func12 KR rfl #[.slice A0 l0.length c0] rfl AR ?_; (with_reducible refine (spec_l15Copy.calls k _ _ l0 t155 _ ?side1 ?side2 A3.out).mono ?_); (case side1 => exact CR (HR0.out)); (case side2 => exact HC0.out); rintro e w4 ⟨v156, rfl, ho0, hb⟩; refine ⟨_, rfl, ?_⟩; have HO157 := ak (Kd.N_lower (Kd.N_mono (ok' := fun k_ => (w.heap.size ≤ k_)) (Kd.S_N (Kd.S_bound ho0)) (fun k_ hk_ => (Nat.le_trans (below_size PB) hk_.2.1))) (below_size PB)); replace HB := bs HB hb; (try clear hb); (try clear hb2); (try clear hk); (try clear hi); (try clear ho0)))
 go_loopg [6, 7] k (fun kq v6 v7 w' => ∃ (x6_1 : List (S45)) (x7_1 : Int), v7 = .int .i64 x7_1 ∧ Aside0 (spec_AddCaptures.l0 kq l0 l1 x6_1 x7_1 = some (r1, r2)) ∧ Aside0 (kq ≤ k) ∧ Aside0 (Kd.N k45 45 w' w.heap.size (fun k_ => (w.heap.size ≤ k_)) v6 x6_1) ∧ Aside0 (Below w.heap.size w w'))
 case atStart => exact ⟨(t155), (0), (by first | rfl | (simp; done) | (simp [*]; done)), H', ⟨Nat.le_refl _⟩, ⟨PN HO157⟩, ⟨PB⟩⟩
 case round =>
  clear H'
  (try clear c1); (try clear p2)
  obtain ⟨x6_1, x7_1, rfl, HA, HK1, HO_6, HB⟩ := hrel
  cases gk with
  | zero => exact absurd HA.out (by simp [spec_AddCaptures.l0])
  | succ k1 =>
   have H := HA.out
   clear HA
   simp only [spec_AddCaptures.l0] at H
   by_cases c5 : x7_1 < (l1.length : Int)
   ·rw [if_pos c5] at H
    have c5b0 : decide (x7_1 < (l1.length : Int)) = true := decide_eq_true c5
    clear c5
    have H' := Aside0.mk H
    clear H
    go_wp2
    go_loopg [8, 9] k1 (fun kq v8 v9 w' => ∃ (x8_2 : Bool) (x9_2 : Int), v8 = .bool x8_2 ∧ v9 = .int .i64 x9_2 ∧ Aside0 (spec_AddCaptures.l1 kq l0 l1 x6_1 x7_1 x8_2 x9_2 = some (r1, r2)) ∧ Aside0 (kq ≤ k1) ∧ Aside0 (Kd.N k45 45 w' w.heap.size (fun k_ => (w.heap.size ≤ k_)) u6 x6_1) ∧ Aside0 (Below w.heap.size w w'))
    case atStart => exact ⟨(false), (0), (by first | rfl | (simp; done) | (simp [*]; done)), (by first | rfl | (simp; done) | (simp [*]; done)), H', ⟨Nat.le_refl _⟩, ⟨PN HO_6⟩, ⟨PB⟩⟩
    case round =>
     clear H'
     (try clear c1); (try clear p2); (try clear c5); (try clear c5b0); (try clear p2)
     obtain ⟨x8_2, x9_2, rfl, rfl, HA, HK2, HO_6, HB⟩ := hrel
     cases gk with
     | zero => exact absurd HA.out (by simp [spec_AddCaptures.l1])
     | succ k2 =>
      have H := HA.out
      clear HA
      simp only [spec_AddCaptures.l1] at H
      by_cases c6 : x9_2 < (x6_1.length : Int)
      ·rw [if_pos c6] at H
       have c6b0 : decide (x9_2 < (x6_1.length : Int)) = true := decide_eq_true c6
       clear c6
       by_cases c7 : x8_2 = true
       ·subst c7
        have H1 : (spec_AddCaptures.l1 k2 l0 l1 x6_1 x7_1 true (wrap64 (x9_2 + 1))) = some (r1, r2) := by rw [if_pos rfl] at H; exact H
        clear H
        have H := H1
        clear H1
        have H' := Aside0.mk H
        clear H
        obtain ⟨Ao8, co8, eo8⟩ := Kd.N_slice HO_6.out
        (first | subst eo8 | (injection eo8 with f1_ f2_ f3_; have f4_ := f1_.symm; have f5_ := f3_.symm; clear f1_ f2_ f3_; subst f4_; subst f5_))
        try go_wp2
        replace HO_6 := ak (Kd.N_drew HO_6.out)
        replace HB := ak (below_drew1 HB.out)
        refine start_ (n := 13) (S := fun w' => True) (ds := []) b3_16 KR rfl rfl trivial (fun hHeld => ?_); refine with_tabW spec_AddCaptures.tab9 spec_AddCaptures.bits9 (fun HT_ HW_ => ?_)
        generalize wr.drew = w9 at HO_6 HB hHeld ⊢
        refine pu_ (i := 0) (N := some 24) b3_15 HT_ ?_
        refine pu_ (i := 1) (N := some 25) b3_14 HT_ ?_
        refine un_ (i := 2) (N := some 26) b3_13 HT_ ?_
        refine un_ (i := 3) (N := some 27) b3_12 HT_ ?_
        refine un_ (i := 4) (N := some 28) b3_11 HT_ ?_
        refine un_ (i := 5) (N := some 29) #[true, true, true, true, true, true, false, false, false, false, false, false, false] HT_ ?_
        refine un_ (i := 6) (N := some 30) #[true, true, true, true, true, true, true, false, false, false, false, false, false] HT_ ?_
        refine un_ (i := 7) (N := some 31) #[true, true, true, true, true, true, true, true, false, false, false, false, false] HT_ ?_
        refine un_ (i := 8) (N := some 32) b3_4 HT_ ?_
        refine un_ (i := 9) (N := some 33) b3_3 HT_ ?_
        refine un_ (i := 10) (N := some 34) b3_2 HT_ ?_
        refine pu_ (i := 11) (N := some 35) b3_1 HT_ ?_
        refine pu_ (i := 12) (N := some 8) b3_0 HT_ ?_
        refine done_ (done_of HT_.out KR) ?_
        try go_wp2
        go_roundg k2
        case measure => have := HK1.out; have := HK2.out; omega
        case rel => exact ⟨(true), (wrap64 (x9_2 + 1)), (by first | rfl | (simp; done) | (simp [*]; done)), (by first | rfl | (simp; done) | (simp [*]; done)), H', ⟨by have := HK1.out; have := HK2.out; omega⟩, ⟨PN HO_6⟩, ⟨PB⟩⟩
       ·replace c7 := Bool.eq_false_iff.mpr c7
        subst c7
        have H1 : (if 0 ≤ x9_2 then (if 0 ≤ x7_1 then (if x7_1 < (l1.length : Int) then ((spec_l15Same.f k2 ((rd_T45 x6_1 x9_2).f0.f0) ((rd_T45 x6_1 x9_2).f0.f1) ((rd_T45 x6_1 x9_2).f0.f2) ((rd_T45 x6_1 x9_2).f1) ((rd_T45 x6_1 x9_2).f2.f0) ((rd_T45 x6_1 x9_2).f2.f1) ((rd_T45 x6_1 x9_2).f2.f2.f0) ((rd_T45 x6_1 x9_2).f2.f2.f1) ((rd_T45 x6_1 x9_2).f2.f2.f2) ((rd_T45 l1 x7_1).f0.f0) ((rd_T45 l1 x7_1).f0.f1) ((rd_T45 l1 x7_1).f0.f2) ((rd_T45 l1 x7_1).f1) ((rd_T45 l1 x7_1).f2.f0) ((rd_T45 l1 x7_1).f2.f1) ((rd_T45 l1 x7_1).f2.f2.f0) ((rd_T45 l1 x7_1).f2.f2.f1) ((rd_T45 l1 x7_1).f2.f2.f2)).bind fun t160 => (spec_AddCaptures.l1 k2 l0 l1 x6_1 x7_1 t160 (wrap64 (x9_2 + 1)))) else (none)) else (none)) else (none)) = some (r1, r2) := by rw [if_neg (show ¬ (false = true) by decide)] at H; exact H
        clear H
        have H := H1
        clear H1
        by_cases c10 : 0 ≤ x9_2
        ·rw [if_pos c10] at H
         have c10b0 : decide (0 ≤ x9_2) = true := decide_eq_true c10
         clear c10
         by_cases c11 : 0 ≤ x7_1
         ·rw [if_pos c11] at H
          have c11b0 : decide (0 ≤ x7_1) = true := decide_eq_true c11
          clear c11
          by_cases c12 : x7_1 < (l1.length : Int)
          ·rw [if_pos c12] at H
           have c12b0 : decide (x7_1 < (l1.length : Int)) = true := decide_eq_true c12
           clear c12
           replace H := Option.bind_eq_some_iff.mp H
           obtain ⟨t160, A130, H⟩ := H
           replace H : (spec_AddCaptures.l1 k2 l0 l1 x6_1 x7_1 t160 (wrap64 (x9_2 + 1))) = some (r1, r2) := H
           have A13 := Aside0.mk A130
           clear A130
           have H' := Aside0.mk H
           clear H
           obtain ⟨Ao14, co14, eo14⟩ := Kd.N_slice HO_6.out
           (first | subst eo14 | (injection eo14 with f1_ f2_ f3_; have f4_ := f1_.symm; have f5_ := f3_.symm; clear f1_ f2_ f3_; subst f4_; subst f5_))
           try go_wp2
           replace HO_6 := ak (Kd.N_drew HO_6.out)
           replace HB := ak (below_drew1 HB.out)
           have p158 : 0 ≤ (x9_2 : Int) := of_decide_eq_true (by first | (with_reducible assumption) | assumption)
           have q158 : x9_2 < (x6_1.length : Int) := of_decide_eq_true (by first | (with_reducible assumption) | assumption)
           obtain ⟨ad158, A158_5, c158_5, e158, hx158_0, hx158_1, hx158_2, hx158_3, hx158_4, hx158_5, hx158_6, hx158_7, hx158_8, hl158_5, hi158_5⟩ := at_T45 (Kd.N_reads' HO_6.out).2.2 x9_2 p158 q158
           cases e158
           obtain ⟨ce158, hce158, hMe158, hcc158⟩ := Kd.N_get HO_6.out z45 x9_2 p158 (by first | exact q158 | exact of_decide_eq_true (by first | (with_reducible assumption) | assumption) | (have e_ := (Kd.N_reads' HO_6.out).1; omega))
           obtain ⟨ua158_5, uc158_5, rfl, ul158_5, ge158_5⟩ := k45_openF hMe158
           have hv158_5 := hcc158 5 _ rfl
           rw [add_field _ _ 5 (by omega)] at hv158_5
           replace hv158_5 := Option.some.inj (hv158_5.symm.trans hx158_5)
           injection hv158_5 with hva_ hvn_ hvc_
           rw [hva_] at ge158_5
           rw [hvc_] at ul158_5
           have HL158_5 := ak (show Kd.V (Kd.int .i64) 3 _ w.heap.size _ _ ((rd_T45 x6_1 x9_2).f2.f1) from Kd.V_mk ul158_5 ge158_5)
           clear hva_ hvn_ hvc_ ge158_5 ul158_5
           clear hcc158 hce158
           have HR158_5 := Aside0.mk hi158_5
           have HC158_5 := Aside0.mk hl158_5
           clear hi158_5 hl158_5
           replace p158 := eq_true p158
           replace q158 := eq_true q158
           have p159 : 0 ≤ (x7_1 : Int) := of_decide_eq_true (by first | (with_reducible assumption) | assumption)
           have q159 : x7_1 < (l1.length : Int) := of_decide_eq_true (by first | (with_reducible assumption) | assumption)
           obtain ⟨ad159, A159_5, c159_5, e159, hx159_0, hx159_1, hx159_2, hx159_3, hx159_4, hx159_5, hx159_6, hx159_7, hx159_8, hl159_5, hi159_5⟩ := at_T45 HR1.out x7_1 p159 q159
           have hw159_8 := hx159_8
           have hw159_7 := hx159_7
           have hw159_6 := hx159_6
           have hw159_5 := hx159_5
           have hw159_4 := hx159_4
           have hw159_3 := hx159_3
           have hw159_2 := hx159_2
           have hw159_1 := hx159_1
           have hw159_0 := hx159_0
           cases e159
           replace hx159_0 := hx_ HB hx159_0
           replace hx159_1 := hx_ HB hx159_1
           replace hx159_2 := hx_ HB hx159_2
           replace hx159_3 := hx_ HB hx159_3
           replace hx159_4 := hx_ HB hx159_4
           replace hx159_5 := hx_ HB hx159_5
           replace hx159_6 := hx_ HB hx159_6
           replace hx159_7 := hx_ HB hx159_7
           replace hx159_8 := hx_ HB hx159_8
           have HR159_5 := Aside0.mk hi159_5
           have HC159_5 := Aside0.mk hl159_5
           clear hi159_5 hl159_5
           replace p159 := eq_true p159
           replace q159 := eq_true q159
           refine start_ (n := 13) (S := fun w' => w'.cell? (ad158.add ((x9_2).toNat * 9)) = some (.int .i64 ((rd_T45 x6_1 x9_2).f0.f0)) ∧ w'.cell? ⟨(ad158.add ((x9_2).toNat * 9)).block, (ad158.add ((x9_2).toNat * 9)).off + 1, none⟩ = some (.int .i64 ((rd_T45 x6_1 x9_2).f0.f1)) ∧ w'.cell? ⟨(ad158.add ((x9_2).toNat * 9)).block, (ad158.add ((x9_2).toNat * 9)).off + 2, none⟩ = some (.int .i64 ((rd_T45 x6_1 x9_2).f0.f2)) ∧ w'.cell? ⟨(ad158.add ((x9_2).toNat * 9)).block, (ad158.add ((x9_2).toNat * 9)).off + 3, none⟩ = some (.int .i64 ((rd_T45 x6_1 x9_2).f1)) ∧ w'.cell? ⟨(ad158.add ((x9_2).toNat * 9)).block, (ad158.add ((x9_2).toNat * 9)).off + 4, none⟩ = some (.int .i64 ((rd_T45 x6_1 x9_2).f2.f0)) ∧ w'.cell? ⟨(ad158.add ((x9_2).toNat * 9)).block, (ad158.add ((x9_2).toNat * 9)).off + 5, none⟩ = some (.slice A158_5 ((rd_T45 x6_1 x9_2).f2.f1).length c158_5) ∧ w'.cell? ⟨(ad158.add ((x9_2).toNat * 9)).block, (ad158.add ((x9_2).toNat * 9)).off + 6, none⟩ = some (.int .i64 ((rd_T45 x6_1 x9_2).f2.f2.f0)) ∧ w'.cell? ⟨(ad158.add ((x9_2).toNat * 9)).block, (ad158.add ((x9_2).toNat * 9)).off + 7, none⟩ = some (.int .i64 ((rd_T45 x6_1 x9_2).f2.f2.f1)) ∧ w'.cell? ⟨(ad158.add ((x9_2).toNat * 9)).block, (ad158.add ((x9_2).toNat * 9)).off + 8, none⟩ = some (.int .i64 ((rd_T45 x6_1 x9_2).f2.f2.f2)) ∧ w'.cell? (ad159.add ((x7_1).toNat * 9)) = some (.int .i64 ((rd_T45 l1 x7_1).f0.f0)) ∧ w'.cell? ⟨(ad159.add ((x7_1).toNat * 9)).block, (ad159.add ((x7_1).toNat * 9)).off + 1, none⟩ = some (.int .i64 ((rd_T45 l1 x7_1).f0.f1)) ∧ w'.cell? ⟨(ad159.add ((x7_1).toNat * 9)).block, (ad159.add ((x7_1).toNat * 9)).off + 2, none⟩ = some (.int .i64 ((rd_T45 l1 x7_1).f0.f2)) ∧ w'.cell? ⟨(ad159.add ((x7_1).toNat * 9)).block, (ad159.add ((x7_1).toNat * 9)).off + 3, none⟩ = some (.int .i64 ((rd_T45 l1 x7_1).f1)) ∧ w'.cell? ⟨(ad159.add ((x7_1).toNat * 9)).block, (ad159.add ((x7_1).toNat * 9)).off + 4, none⟩ = some (.int .i64 ((rd_T45 l1 x7_1).f2.f0)) ∧ w'.cell? ⟨(ad159.add ((x7_1).toNat * 9)).block, (ad159.add ((x7_1).toNat * 9)).off + 5, none⟩ = some (.slice A159_5 ((rd_T45 l1 x7_1).f2.f1).length c159_5) ∧ w'.cell? ⟨(ad159.add ((x7_1).toNat * 9)).block, (ad159.add ((x7_1).toNat * 9)).off + 6, none⟩ = some (.int .i64 ((rd_T45 l1 x7_1).f2.f2.f0)) ∧ w'.cell? ⟨(ad159.add ((x7_1).toNat * 9)).block, (ad159.add ((x7_1).toNat * 9)).off + 7, none⟩ = some (.int .i64 ((rd_T45 l1 x7_1).f2.f2.f1)) ∧ w'.cell? ⟨(ad159.add ((x7_1).toNat * 9)).block, (ad159.add ((x7_1).toNat * 9)).off + 8, none⟩ = some (.int .i64 ((rd_T45 l1 x7_1).f2.f2.f2))) (ds := []) b3_16 KR rfl rfl ⟨hx158_0, hx158_1, hx158_2, hx158_3, hx158_4, hx158_5, hx158_6, hx158_7, hx158_8, ((HB.out.cell (World.block_lt_of_cell? w _ hw159_0)).trans hw159_0), ((HB.out.cell (World.block_lt_of_cell? w _ hw159_1)).trans hw159_1), ((HB.out.cell (World.block_lt_of_cell? w _ hw159_2)).trans hw159_2), ((HB.out.cell (World.block_lt_of_cell? w _ hw159_3)).trans hw159_3), ((HB.out.cell (World.block_lt_of_cell? w _ hw159_4)).trans hw159_4), ((HB.out.cell (World.block_lt_of_cell? w _ hw159_5)).trans hw159_5), ((HB.out.cell (World.block_lt_of_cell? w _ hw159_6)).trans hw159_6), ((HB.out.cell (World.block_lt_of_cell? w _ hw159_7)).trans hw159_7), ((HB.out.cell (World.block_lt_of_cell? w _ hw159_8)).trans hw159_8)⟩ (fun hHeld => ?_); refine with_tabW spec_AddCaptures.tab9 spec_AddCaptures.bits9 (fun HT_ HW_ => ?_)
           generalize wr.drew = w15 at HO_6 HB HL158_5 HR158_5 HR159_5 hx158_0 hx158_1 hx158_2 hx158_3 hx158_4 hx158_5 hx158_6 hx158_7 hx158_8 hx159_0 hx159_1 hx159_2 hx159_3 hx159_4 hx159_5 hx159_6 hx159_7 hx159_8 hHeld ⊢
           refine pu_ (i := 0) (N := some 24) b3_15 HT_ ?_
           refine pu_ (i := 1) (N := some 25) b3_14 HT_ ?_
           refine pu_ (i := 2) (N := some 26) b3_13 HT_ ?_
           refine pu_ (i := 3) (N := some 27) b3_12 HT_ ?_
           refine pu_ (i := 4) (N := some 28) b3_11 HT_ ?_
           refine pu_ (i := 6) (N := some 30) #[true, true, true, true, true, false, true, false, false, false, false, false, false] HT_ ?_
           refine pu_ (i := 7) (N := some 31) #[true, true, true, true, true, false, true, true, false, false, false, false, false] HT_ ?_
           refine pu_ (i := 8) (N := some 32) #[true, true, true, true, true, false, true, true, true, false, false, false, false] HT_ ?_
           refine tk_ (i := 5) (N := some 29) b3_4 rfl rfl HT_ HW_ hHeld ?_
           refine take_ (i := 9) (N := some 33) (v := ?_) (a' := ?_) b3_3 rfl rfl (take_ofW HT_.out HW_.out KR) (fun _ _ _ h => h) (Or.inl ⟨by rfl, ?_⟩) hHeld ?_ ?_
           rotate_left
           ·rintro w' ⟨s0, s1, s2, s3, s4, s5, s6, s7, s8, s9, s10, s11, s12, s13, s14, s15, s16, s17⟩
            go_simp
            with_reducible rfl
           rotate_left
           ·simp only [Act.put, List.setIfInBounds_toArray, List.set_cons_zero, List.set_cons_succ, i64_w, i32_w]
            rfl
           refine one_ (i := 10) (N := some 34) b3_2 rfl rfl (one_of HT_.out KR) (by decide) (fun K hK => ?_)
           refine goes_ Try.func13 KR rfl #[.agg #[.int .i64 ((rd_T45 x6_1 x9_2).f0.f0), .int .i64 ((rd_T45 x6_1 x9_2).f0.f1), .int .i64 ((rd_T45 x6_1 x9_2).f0.f2), .int .i64 ((rd_T45 x6_1 x9_2).f1), .int .i64 ((rd_T45 x6_1 x9_2).f2.f0), .slice A158_5 ((rd_T45 x6_1 x9_2).f2.f1).length c158_5, .int .i64 ((rd_T45 x6_1 x9_2).f2.f2.f0), .int .i64 ((rd_T45 x6_1 x9_2).f2.f2.f1), .int .i64 ((rd_T45 x6_1 x9_2).f2.f2.f2)], .agg #[.int .i64 ((rd_T45 l1 x7_1).f0.f0), .int .i64 ((rd_T45 l1 x7_1).f0.f1), .int .i64 ((rd_T45 l1 x7_1).f0.f2), .int .i64 ((rd_T45 l1 x7_1).f1), .int .i64 ((rd_T45 l1 x7_1).f2.f0), .slice A159_5 ((rd_T45 l1 x7_1).f2.f1).length c159_5, .int .i64 ((rd_T45 l1 x7_1).f2.f2.f0), .int .i64 ((rd_T45 l1 x7_1).f2.f2.f1), .int .i64 ((rd_T45 l1 x7_1).f2.f2.f2)]] (by rfl) rfl rfl AR ?_
           with_reducible refine (spec_l15Same.calls k2 ((rd_T45 x6_1 x9_2).f0.f0) ((rd_T45 x6_1 x9_2).f0.f1) ((rd_T45 x6_1 x9_2).f0.f2) ((rd_T45 x6_1 x9_2).f1) ((rd_T45 x6_1 x9_2).f2.f0) _ _ ((rd_T45 x6_1 x9_2).f2.f1) ((rd_T45 x6_1 x9_2).f2.f2.f0) ((rd_T45 x6_1 x9_2).f2.f2.f1) ((rd_T45 x6_1 x9_2).f2.f2.f2) ((rd_T45 l1 x7_1).f0.f0) ((rd_T45 l1 x7_1).f0.f1) ((rd_T45 l1 x7_1).f0.f2) ((rd_T45 l1 x7_1).f1) ((rd_T45 l1 x7_1).f2.f0) _ _ ((rd_T45 l1 x7_1).f2.f1) ((rd_T45 l1 x7_1).f2.f2.f0) ((rd_T45 l1 x7_1).f2.f2.f1) ((rd_T45 l1 x7_1).f2.f2.f2) t160 _ ?side1 ?side2 ?side3 ?side4 A13.out).mono ?_
           (case side1 => repeat (first | exact (PC HR158_5) | (with_reducible refine Kd.C_alloc ?_ _) | (with_reducible refine Kd.C_drewN ?_ _) | (with_reducible refine Kd.C_drew ?_)))
           (case side2 => exact HC158_5.out)
           (case side3 => exact CR (Kd.C_below HR159_5.out HB.out))
           (case side4 => exact HC159_5.out)
           rintro e w16 ⟨rfl, hb⟩
           have HS0_ := hs_ hb hHeld.1; have HS1_ := hs_ hb hHeld.2.1; have HS2_ := hs_ hb hHeld.2.2.1; have HS3_ := hs_ hb hHeld.2.2.2.1; have HS4_ := hs_ hb hHeld.2.2.2.2.1; have HS5_ := hs_ hb hHeld.2.2.2.2.2.1; have HS6_ := hs_ hb hHeld.2.2.2.2.2.2.1; have HS7_ := hs_ hb hHeld.2.2.2.2.2.2.2.1; have HS8_ := hs_ hb hHeld.2.2.2.2.2.2.2.2.1
           refine ⟨_, rfl, ?_⟩
           replace HO_6 := Nb HO_6 hb
           replace HL158_5 := Vb HL158_5 hb
           replace HR158_5 := Cb HR158_5 hb
           replace HB := bs HB hb
           (try clear hb)
           (try clear hb2)
           (try clear hk)
           (try clear hi)
           refine hK.out _ _ ⟨HS0_, HS1_, HS2_, HS3_, HS4_, HS5_, HS6_, HS7_, HS8_, ((HB.out.cell (World.block_lt_of_cell? w _ hw159_0)).trans hw159_0), ((HB.out.cell (World.block_lt_of_cell? w _ hw159_1)).trans hw159_1), ((HB.out.cell (World.block_lt_of_cell? w _ hw159_2)).trans hw159_2), ((HB.out.cell (World.block_lt_of_cell? w _ hw159_3)).trans hw159_3), ((HB.out.cell (World.block_lt_of_cell? w _ hw159_4)).trans hw159_4), ((HB.out.cell (World.block_lt_of_cell? w _ hw159_5)).trans hw159_5), ((HB.out.cell (World.block_lt_of_cell? w _ hw159_6)).trans hw159_6), ((HB.out.cell (World.block_lt_of_cell? w _ hw159_7)).trans hw159_7), ((HB.out.cell (World.block_lt_of_cell? w _ hw159_8)).trans hw159_8)⟩ (fun hHeld => ?_)
           clear hK K
           refine norm_ (a' := ?_) ?_ ?_
           rotate_left
           ·show Act.put _ (some 34) _ = _
            simp only [Act.put, List.setIfInBounds_toArray, List.set_cons_zero, List.set_cons_succ, i64_w, i32_w]
            rfl
           refine pu_ (i := 11) (N := some 35) b3_1 HT_ ?_
           refine pu_ (i := 12) (N := some 8) b3_0 HT_ ?_
           refine done_ (done_of HT_.out KR) ?_
           try go_wp2
           go_roundg k2
           case measure => have := HK1.out; have := HK2.out; omega
           case rel => exact ⟨(t160), (wrap64 (x9_2 + 1)), (by first | rfl | (simp; done) | (simp [*]; done)), (by first | rfl | (simp; done) | (simp [*]; done)), H', ⟨by have := HK1.out; have := HK2.out; omega⟩, ⟨PN HO_6⟩, ⟨PB⟩⟩
          ·rw [if_neg c12] at H
           exact absurd H (by simp)
         ·rw [if_neg c11] at H
          exact absurd H (by simp)
        ·rw [if_neg c10] at H
         exact absurd H (by simp)
      ·rw [if_neg c6] at H
       have c6b0 : decide (x9_2 < (x6_1.length : Int)) = false := decide_eq_false c6
       clear c6
       by_cases c17 : x8_2 = true
       ·subst c17
        have H1 : (spec_AddCaptures.l0 k2 l0 l1 x6_1 (wrap64 (x7_1 + 1))) = some (r1, r2) := by rw [if_pos rfl] at H; exact H
        clear H
        have H := H1
        clear H1
        have H' := Aside0.mk H
        clear H
        obtain ⟨Ao18, co18, eo18⟩ := Kd.N_slice HO_6.out
        (first | subst eo18 | (injection eo18 with f1_ f2_ f3_; have f4_ := f1_.symm; have f5_ := f3_.symm; clear f1_ f2_ f3_; subst f4_; subst f5_))
        go_wp2
        go_roundg k2
        case measure => have := HK1.out; have := HK2.out; omega
        case rel => exact ⟨(x6_1), (wrap64 (x7_1 + 1)), (by first | rfl | (simp; done) | (simp [*]; done)), H', ⟨by have := HK1.out; have := HK2.out; omega⟩, ⟨PN HO_6⟩, ⟨PB⟩⟩
       ·replace c17 := Bool.eq_false_iff.mpr c17
        subst c17
        have H1 : (if 0 ≤ x7_1 then (if x7_1 ≤ (wrap64 (x7_1 + 1)) then (if (wrap64 (x7_1 + 1)) ≤ (l1.length : Int) then ((spec_l15Copy.f k2 ((l1.take ((wrap64 (x7_1 + 1)) : Int).toNat).drop (x7_1 : Int).toNat)).bind fun t165 => (if x6_1.length + t165.length < 1599289640401 then (spec_AddCaptures.l0 k2 l0 l1 (x6_1 ++ t165) (wrap64 (x7_1 + 1))) else (none))) else (none)) else (none)) else (none)) = some (r1, r2) := by rw [if_neg (show ¬ (false = true) by decide)] at H; exact H
        clear H
        have H := H1
        clear H1
        by_cases c19 : 0 ≤ x7_1
        ·rw [if_pos c19] at H
         have c19b0 := eq_true c19
         have c19b1 : decide (0 ≤ x7_1) = true := decide_eq_true c19
         clear c19
         by_cases c20 : x7_1 ≤ (wrap64 (x7_1 + 1))
         ·rw [if_pos c20] at H
          have c20b0 := eq_true c20
          have c20b1 : decide (x7_1 ≤ (wrap64 (x7_1 + 1))) = true := decide_eq_true c20
          by_cases c21 : (wrap64 (x7_1 + 1)) ≤ (l1.length : Int)
          ·rw [if_pos c21] at H
           have c21b0 := eq_true c21
           have c21b1 : decide ((wrap64 (x7_1 + 1)) ≤ (l1.length : Int)) = true := decide_eq_true c21
           obtain ⟨y161, hy161⟩ : ∃ y_ : List (S45), y_ = ((l1.take ((wrap64 (x7_1 + 1)) : Int).toNat).drop (x7_1 : Int).toNat) := ⟨_, rfl⟩
           replace H : ((spec_l15Copy.f k2 y161).bind fun t165 => (if x6_1.length + t165.length < 1599289640401 then (spec_AddCaptures.l0 k2 l0 l1 (x6_1 ++ t165) (wrap64 (x7_1 + 1))) else (none))) = some (r1, r2) := by first | (rw [hy161]; with_reducible exact H) | (have H2_ := (Option.bind_some _ _).symm.trans H; rw [hy161]; with_reducible exact H2_) | (have H2_ := (Option.bind_some _ _).symm.trans H; with_reducible exact H2_) | with_reducible exact H | (rw [hy161]; exact H) | exact H
           have Ny161 := Aside0.mk hy161
           clear hy161
           replace H := Option.bind_eq_some_iff.mp H
           obtain ⟨t165, A220, H⟩ := H
           replace H : (if x6_1.length + t165.length < 1599289640401 then (spec_AddCaptures.l0 k2 l0 l1 (x6_1 ++ t165) (wrap64 (x7_1 + 1))) else (none)) = some (r1, r2) := H
           have A22 := Aside0.mk A220
           clear A220
           by_cases c23 : x6_1.length + t165.length < 1599289640401
           ·rw [if_pos c23] at H
            have LMc23 := Aside0.mk c23
            clear c23
            obtain ⟨y168, hy168⟩ : ∃ y_ : List (S45), y_ = (x6_1 ++ t165) := ⟨_, rfl⟩
            replace H : (spec_AddCaptures.l0 k2 l0 l1 y168 (wrap64 (x7_1 + 1))) = some (r1, r2) := by first | (rw [hy168]; with_reducible exact H) | (have H2_ := (Option.bind_some _ _).symm.trans H; rw [hy168]; with_reducible exact H2_) | (have H2_ := (Option.bind_some _ _).symm.trans H; with_reducible exact H2_) | with_reducible exact H | (rw [hy168]; exact H) | exact H
            have Ny168 := Aside0.mk hy168
            clear hy168
            have H' := Aside0.mk H
            clear H
            obtain ⟨Ao24, co24, eo24⟩ := Kd.N_slice HO_6.out
            (first | subst eo24 | (injection eo24 with f1_ f2_ f3_; have f4_ := f1_.symm; have f5_ := f3_.symm; clear f1_ f2_ f3_; subst f4_; subst f5_))
            have q25 : ((wrap64 (x7_1 + 1)) : Int) ≤ ((l1.length : Int) : Int) := of_decide_eq_true (by first | (with_reducible assumption) | assumption)
            obtain ⟨i025, hi025, _, hsz25, _⟩ := info_parts info45
            have hroom25 : l1.length ≤ c1 := HC1.out
            have hC25 : Kd.C k45 _ A1 l1.length l1 := HR1.out
            have ql25 : (x7_1 : Int) ≤ ((wrap64 (x7_1 + 1)) : Int) := of_decide_eq_true (by first | (with_reducible assumption) | assumption)
            have q025 : (0 : Int) ≤ (x7_1 : Int) := of_decide_eq_true (by first | (with_reducible assumption) | assumption)
            have hcut25 := cut_mid (P := Try.prog) 24 45 .i64 .i64 Try.underlying24 hi025 9 hsz25 A1 l1.length c1 x7_1 (wrap64 (x7_1 + 1)) q025 ql25 q25 hroom25
            have hr25 := Kd.C_mid (lo := (x7_1 : Int).toNat) (hi := ((wrap64 (x7_1 + 1)) : Int).toNat) (c := c1) hC25 (by omega) (by omega) hroom25
            obtain ⟨A25, hA25⟩ : ∃ z_, z_ = (if c1 = (x7_1 : Int).toNat then A1 else (A1 : Option Addr).map (·.add ((x7_1 : Int).toNat * 9))) := ⟨_, rfl⟩
            obtain ⟨c25, hc25⟩ : ∃ z_, z_ = c1 - (x7_1 : Int).toNat := ⟨_, rfl⟩
            have hy25 : y161.length = ((wrap64 (x7_1 + 1)) : Int).toNat - (x7_1 : Int).toNat := (by rw [Ny161.out, List.length_drop, List.length_take] <;> omega)
            rw [show ((l1).take ((wrap64 (x7_1 + 1)) : Int).toNat).drop (x7_1 : Int).toNat = y161 from Ny161.out.symm] at hr25
            replace hr25 : Kd.C k45 _ A25 y161.length y161 := (by rw [hA25]; exact hr25)
            rw [← hy25, ← hA25, ← hc25] at hcut25
            have HR164 := Aside0.mk hr25
            have HC164 := ak (show y161.length ≤ c25 from by rw [hy25, hc25]; exact Nat.sub_le_sub_right (Nat.le_trans (by omega) hroom25) _)
            clear hr25 hC25 hroom25 hi025 hsz25 hc25
            have KY25 := Aside0.mk hy25
            have KA25 := Aside0.mk hA25
            clear hy25 hA25
            replace q25 := eq_true q25
            go_wp2_with (first | ((with_reducible refine gate_callee (f := 12) rfl ?_); refine goesL_ (some 44) rfl rfl Try.func12 KR rfl #[.slice A25 y161.length c25] rfl AR ?_; (with_reducible refine (spec_l15Copy.calls k2 _ _ y161 t165 _ ?side1 ?side2 A22.out).mono ?_); (case side1 => exact CR (Kd.C_below HR164.out HB.out)); (case side2 => exact HC164.out); rintro e w26 ⟨v166, rfl, ho0, hb⟩; refine ⟨_, rfl, ?_⟩; have HO167 := ak (Kd.N_lower (Kd.N_mono (ok' := fun k_ => (w.heap.size ≤ k_) ∧ some k_ ≠ (.slice Ao24 x6_1.length co24 : Value).ownBlock) (Kd.S_N (Kd.S_bound ho0)) (fun k_ hk_ => ⟨(Nat.le_trans (below_size PB) hk_.2.1), (Kd.fresh' (Kd.N_lt (PN HO_6)) k_ hk_.2.1)⟩)) (below_size PB)); replace HO_6 := ak (Kd.N_elder' (PN HO_6) (Kd.S_base ho0) hb); replace HB := bs HB hb; (try clear hb); (try clear hb2); (try clear hk); (try clear hi); (try clear ho0); obtain ⟨Ao28, co28, eo28⟩ := Kd.N_slice HO167.out; subst eo28) | ((with_reducible refine gate_builtin (b := .append) (xs := #[.tmp 38, .tmp 44]) rfl ?_); at_builtin; refine Kd.N_append_rows k45 (w0 := w) w.heap.size rfl (.tmp 38) (.tmp 44) 24 45 (.agg #[(.int .i64 0), (.int .i64 0), (.int .i64 0), (.int .i64 0), (.int .i64 0), (.slice none 0 0), (.int .i64 0), (.int .i64 0), (.int .i64 0)]) 88 rfl Try.underlying24 info45 rfl (by decide) (by omega) (.slice Ao24 x6_1.length co24) x6_1 t165 _ _ _ (fun k_ => (w.heap.size ≤ k_)) (fun k_ => ((fun k_ => (w.heap.size ≤ k_))) k_ ∧ some k_ ≠ (.slice Ao24 x6_1.length co24 : Value).ownBlock) rfl rfl ?aO ?aR (fun _ hk => hk) ?aF ?aB ?aS ?aL ?_; (case aR => exact (by skip; exact Kd.N_F (Kd.N_mono (ok' := (fun k_ => ((fun k_ => (w.heap.size ≤ k_))) k_ ∧ some k_ ≠ (.slice Ao24 x6_1.length co24 : Value).ownBlock)) (HO167.out) (fun k_ hk => by first | exact ⟨hk.1, hk.2⟩ | simp_all)))); (case aB => exact PB); (case aF => exact (fun k_ hk => (Nat.le_trans (below_size PB) hk))); (case aO => exact (NX HO_6.out (fun _ hk => by first | exact hk.1 | simp_all))); (case aS => exact (below_size PB)); (case aL => have := LMc23.out; omega); intro v169 w27 ho hb hg hat; rw [← Ny168.out] at ho; replace HO167 := ak (Kd.N_afterv (ok := (fun k_ => (w.heap.size ≤ k_))) (PN HO167) hg hat); replace HB := ak hb; have HO170 := ak (ho); clear HO_6; clear ho hb hg hat))
            go_roundg k2
            case measure => have := HK1.out; have := HK2.out; omega
            case rel => exact ⟨(y168), (wrap64 (x7_1 + 1)), (by first | rfl | (simp; done) | (simp [*]; done)), H', ⟨by have := HK1.out; have := HK2.out; omega⟩, ⟨PN HO170⟩, ⟨PB⟩⟩
           ·rw [if_neg c23] at H
            exact absurd H (by simp)
          ·rw [if_neg c21] at H
           exact absurd H (by simp)
         ·rw [if_neg c20] at H
          exact absurd H (by simp)
        ·rw [if_neg c19] at H
         exact absurd H (by simp)
   ·rw [if_neg c5] at H
    have c5b0 : decide (x7_1 < (l1.length : Int)) = false := decide_eq_false c5
    clear c5
    replace H := Option.bind_eq_some_iff.mp H
    obtain ⟨t171, A290, H⟩ := H
    replace H : (if t171 = true then (some (x6_1, true)) else ((spec_l15Copy.f k1 l0).bind fun t172 => (some (t172, false)))) = some (r1, r2) := H
    have A29 := Aside0.mk A290
    clear A290
    by_cases c30 : t171 = true
    ·subst c30
     have H1 : (some (x6_1, true)) = some (r1, r2) := by rw [if_pos rfl] at H; exact H
     clear H
     have H := H1
     clear H1
     simp only [Option.some.injEq, Prod.mk.injEq] at H
     obtain ⟨rfl, rfl⟩ := H
     obtain ⟨Ao31, co31, eo31⟩ := Kd.N_slice HO_6.out
     (first | subst eo31 | (injection eo31 with f1_ f2_ f3_; have f4_ := f1_.symm; have f5_ := f3_.symm; clear f1_ f2_ f3_; subst f4_; subst f5_))
     go_wp2_with (first | ((with_reducible refine gate_callee (f := 14) rfl ?_); refine goesL_ (some 47) rfl rfl Try.func14 KR rfl #[.slice Ao31 x6_1.length co31] rfl AR ?_; (with_reducible refine (spec_AreCaptures.calls k1 _ _ x6_1 true _ ?side1 ?side2 A29.out).mono ?_); (case side1 => exact CR ((Kd.N_reads' HO_6.out).2.2)); (case side2 => exact (Kd.N_reads' HO_6.out).2.1); rintro e w32 ⟨rfl, hb⟩; refine ⟨_, rfl, ?_⟩; replace HO_6 := Nb HO_6 hb; replace HB := bs HB hb; (try clear hb); (try clear hb2); (try clear hk); (try clear hi)))
     go_ret2
     exact ⟨_, RT, by (with_reducible repeat (first | apply Kd.N_alloc | apply Kd.N_drewN | apply Kd.N_drew)); exact HO_6.out, PB⟩
    ·replace c30 := Bool.eq_false_iff.mpr c30
     subst c30
     have H1 : ((spec_l15Copy.f k1 l0).bind fun t172 => (some (t172, false))) = some (r1, r2) := by rw [if_neg (show ¬ (false = true) by decide)] at H; exact H
     clear H
     have H := H1
     clear H1
     replace H := Option.bind_eq_some_iff.mp H
     obtain ⟨t172, A330, H⟩ := H
     replace H : (some (t172, false)) = some (r1, r2) := H
     have A33 := Aside0.mk A330
     clear A330
     simp only [Option.some.injEq, Prod.mk.injEq] at H
     obtain ⟨rfl, rfl⟩ := H
     obtain ⟨Ao34, co34, eo34⟩ := Kd.N_slice HO_6.out
     (first | subst eo34 | (injection eo34 with f1_ f2_ f3_; have f4_ := f1_.symm; have f5_ := f3_.symm; clear f1_ f2_ f3_; subst f4_; subst f5_))
     go_wp2_with (first | ((with_reducible refine gate_callee (f := 14) rfl ?_); refine goesL_ (some 47) rfl rfl Try.func14 KR rfl #[.slice Ao34 x6_1.length co34] rfl AR ?_; (with_reducible refine (spec_AreCaptures.calls k1 _ _ x6_1 false _ ?side1 ?side2 A29.out).mono ?_); (case side1 => exact CR ((Kd.N_reads' HO_6.out).2.2)); (case side2 => exact (Kd.N_reads' HO_6.out).2.1); rintro e w35 ⟨rfl, hb⟩; refine ⟨_, rfl, ?_⟩; replace HO_6 := Nb HO_6 hb; replace HB := bs HB hb; (try clear hb); (try clear hb2); (try clear hk); (try clear hi)) | ((with_reducible refine gate_callee (f := 12) rfl ?_); refine goesL_ (some 50) rfl rfl Try.func12 KR rfl #[.slice A0 l0.length c0] rfl AR ?_; (with_reducible refine (spec_l15Copy.calls k1 _ _ l0 t172 _ ?side1 ?side2 A33.out).mono ?_); (case side1 => exact CR (Kd.C_below HR0.out HB.out)); (case side2 => exact HC0.out); rintro e w36 ⟨v173, rfl, ho0, hb⟩; refine ⟨_, rfl, ?_⟩; have HO174 := ak (Kd.N_lower (Kd.N_mono (ok' := fun k_ => (w.heap.size ≤ k_) ∧ some k_ ≠ (.slice Ao34 x6_1.length co34 : Value).ownBlock) (Kd.S_N (Kd.S_bound ho0)) (fun k_ hk_ => ⟨(Nat.le_trans (below_size PB) hk_.2.1), (Kd.fresh' (Kd.N_lt (PN HO_6)) k_ hk_.2.1)⟩)) (below_size PB)); replace HO_6 := ak (Kd.N_elder' (PN HO_6) (Kd.S_base ho0) hb); replace HB := bs HB hb; (try clear hb); (try clear hb2); (try clear hk); (try clear hi); (try clear ho0)))
     go_ret2
     exact ⟨_, RT, NX HO174.out (fun _ hk => by first | exact hk.1 | simp_all), PB⟩

/-! ### laws_toAddress: function 29 -/
def laws_toAddress.f (a0_0 : Int) (a0_1 : Int) (a0_2 : Int) : Option (Int × Int × Int) := some (a0_0, a0_1, a0_2)
set_option maxHeartbeats 8000000 in
set_option maxRecDepth 100000 in
theorem laws_toAddress.calls (a0_0 : Int) (a0_1 : Int) (a0_2 : Int) (r1 : Int) (r2 : Int) (r3 : Int) (w : World) (h : laws_toAddress.f a0_0 a0_1 a0_2 = some (r1, r2, r3)) :
  Calls Try.prog 29 #[.agg #[.int .i64 a0_0, .int .i64 a0_1, .int .i64 a0_2]] w fun e w' => e = .returned (.agg #[.int .i64 r1, .int .i64 r2, .int .i64 r3]) ∧ Below w.heap.size w w' := by
 have hu33 := Try.underlying33
 have hu41 := Try.underlying41
 have HB := ak (Below.refl w.heap.size w)
 have H : (some (a0_0, a0_1, a0_2)) = some (r1, r2, r3) := h
 clear h
 simp only [Option.some.injEq, Prod.mk.injEq] at H
 obtain ⟨rfl, rfl, rfl⟩ := H
 go_enter Try.func29, Try.ntmps29
 go_wp2_with (first | ((with_reducible refine gate_dst (N := 1) rfl ?_); refine bx_ (N := 1) #[.int .i64 a0_0, .int .i64 a0_1, .int .i64 a0_2] 33 ?_; intro gb175 hg w2 hbox hb; have BK175 := ak hbox; have GW175 := gy hg HB; have GE175 := gy hg HB; replace HB := bs HB hb; clear hb hbox hg) | ((with_reducible refine gate_dst (N := 2) rfl ?_); refine bx_ (N := 2) #[.int .i64 0, .int .i64 0, .int .i64 0] 41 ?_; intro gb176 hg w3 hbox hb; have BK176 := ak hbox; have GW176 := gy hg HB; have GE176 := gy hg HB; replace HB := bs HB hb; have NB175_176 := gm hg BK175; have NB176_175 := gn hg BK175; replace BK175 := kf BK175 hb; clear hb hbox hg) | ((with_reducible refine gate_dst (N := 3) rfl ?_); refine bx_ (N := 3) #[.int .i64 0, .int .i64 0, .int .i64 0] 41 ?_; intro gb177 hg w4 hbox hb; have BK177 := ak hbox; have GW177 := gy hg HB; have GE177 := gy hg HB; replace HB := bs HB hb; have NB175_177 := gm hg BK175; have NB177_175 := gn hg BK175; replace BK175 := kf BK175 hb; have NB176_177 := gm hg BK176; have NB177_176 := gn hg BK176; replace BK176 := kf BK176 hb; clear hb hbox hg; have hnb5 := NB175_176.out; have hnc5 := NB176_175.out; have hnb6 := NB175_177.out; have hnc6 := NB177_175.out; obtain ⟨_, _, _, _, _, _⟩ := bc3 BK175; have hnb8 := NB177_176.out; have hnc8 := NB176_177.out; obtain ⟨_, _, _, _, _, _⟩ := bc3 BK177; obtain ⟨_, _, _, _, _, _⟩ := bc3 BK176))
 refine bodyPost_ret (results_cell_row rfl _ _ gb176 41 #[.int .i64 a0_0, .int .i64 a0_1, .int .i64 a0_2] (0, 0) _ rfl (PX BK176) Try.underlying41 rfl KR) rfl ?_
 exact ⟨RT, PB⟩

/-! ### laws_toIntS: function 44 -/
def laws_toIntS.l0 : Nat → List Int → List Int → Int → Option (List Int)
  | 0, _, _, _ => none
  | k + 1, x0, x3, x4 => if x4 < (x0.length : Int) then (if 0 ≤ x4 then (if x4 < (x3.length : Int) then (laws_toIntS.l0 k x0 (x3.set (x4 : Int).toNat (rd x0 x4)) (wrap64 (x4 + 1))) else (none)) else (none)) else (some x3)
def laws_toIntS.f (k : Nat) (l0 : List Int) : Option (List Int) := if 0 ≤ (l0.length : Int) then (if ((l0.length : Int) : Int).toNat ≤ 35184372088832 then (laws_toIntS.l0 k l0 (List.replicate ((l0.length : Int) : Int).toNat 0) 0) else (none)) else (none)
set_option maxHeartbeats 8000000 in
set_option maxRecDepth 100000 in
theorem laws_toIntS.calls (k : Nat) (A0 : Option Addr) (c0 : Nat) (l0 : List Int) (r : List Int) (w : World) (hr0 : Kd.C (Kd.int .i64) w A0 l0.length l0) (hc0 : l0.length ≤ c0) (h : laws_toIntS.f k l0 = some r) :
  Calls Try.prog 44 #[.slice A0 l0.length c0] w fun e w' => ∃ v0_ : Value, e = .returned (v0_) ∧ Kd.R (Kd.int .i64) 3 w' w.heap.size (fun _ => True) v0_ r ∧ Below w.heap.size w w' := by
 have HR0 := Aside0.mk hr0
 have HC0 := Aside0.mk hc0
 clear hr0 hc0
 have HB := ak (Below.refl w.heap.size w)
 have H : (if 0 ≤ (l0.length : Int) then (if ((l0.length : Int) : Int).toNat ≤ 35184372088832 then (laws_toIntS.l0 k l0 (List.replicate ((l0.length : Int) : Int).toNat 0) 0) else (none)) else (none)) = some r := h
 clear h
 by_cases c2 : 0 ≤ (l0.length : Int)
 ·rw [if_pos c2] at H
  have c2b0 := eq_true c2
  have c2b1 : decide (0 ≤ (l0.length : Int)) = true := decide_eq_true c2
  clear c2
  by_cases c3 : ((l0.length : Int) : Int).toNat ≤ 35184372088832
  ·rw [if_pos c3] at H
   have c3b0 := eq_true c3
   have c3b1 : decide (((l0.length : Int) : Int).toNat ≤ 35184372088832) = true := decide_eq_true c3
   clear c3
   obtain ⟨y178, hy178⟩ : ∃ y_ : List Int, y_ = (List.replicate ((l0.length : Int) : Int).toNat 0) := ⟨_, rfl⟩
   replace H : (laws_toIntS.l0 k l0 y178 0) = some r := by first | (rw [hy178]; with_reducible exact H) | (have H2_ := (Option.bind_some _ _).symm.trans H; rw [hy178]; with_reducible exact H2_) | (have H2_ := (Option.bind_some _ _).symm.trans H; with_reducible exact H2_) | with_reducible exact H | (rw [hy178]; exact H) | exact H
   have Ny178 := Aside0.mk hy178
   clear hy178
   have H' := Aside0.mk H
   clear H
   go_enter Try.func44, Try.ntmps44
   go_wp2_with (first | ((with_reducible refine gate_dst (N := 7) rfl ?_); refine Kd.R_make (Kd.int .i64) _ 3 rfl (N := 7) rfl 34 _ _ rfl (l0.length : Int) rfl rfl Try.underlying34 (.int .i64 0) 8 info3 rfl (by decide) (by omega) 0 (ok := fun _ => True) (okp := fun _ => True) rfl (fun _ hk => hk) trivial (of_decide_eq_true (by first | (with_reducible assumption) | assumption)) (Nat.le_trans (Nat.mul_le_mul_right _ (of_decide_eq_true (by first | (with_reducible assumption) | assumption) : (l0.length : Int).toNat ≤ 35184372088832)) (by omega)) (Below.refl _ _) (Nat.le_refl _) ?_; intro v179 w4 ho5 hb hg_ hnew_; clear hg_ hnew_; (first | rw [← Ny178.out] at ho5 | (simp only [Int.reduceToNat] at ho5; rw [← Ny178.out] at ho5)); have HO180 := Rn0 ho5 HB; replace HB := bs HB hb; clear hb ho5))
   go_loopg [4] k (fun kq v4 w' => ∃ (x3_1 : List Int) (x4_1 : Int), v4 = .int .i64 x4_1 ∧ Aside0 (laws_toIntS.l0 kq l0 x3_1 x4_1 = some r) ∧ Aside0 (kq ≤ k) ∧ Aside0 (Kd.R (Kd.int .i64) 3 w' w.heap.size (fun _ => True) v179 x3_1) ∧ Aside0 (Below w.heap.size w w'))
   case atStart => exact ⟨(y178), (0), (by first | rfl | (simp; done) | (simp [*]; done)), H', ⟨Nat.le_refl _⟩, ⟨PR HO180⟩, ⟨PB⟩⟩
   case round =>
    clear H'
    (try clear c2); (try clear c2b0); (try clear c2b1); (try clear p2); (try clear c3); (try clear c3b0); (try clear c3b1); (try clear c4)
    obtain ⟨x3_1, x4_1, rfl, HA, HK1, HO_3, HB⟩ := hrel
    cases gk with
    | zero => exact absurd HA.out (by simp [laws_toIntS.l0])
    | succ k1 =>
     have H := HA.out
     clear HA
     simp only [laws_toIntS.l0] at H
     by_cases c6 : x4_1 < (l0.length : Int)
     ·rw [if_pos c6] at H
      have c6b0 : decide (x4_1 < (l0.length : Int)) = true := decide_eq_true c6
      clear c6
      by_cases c7 : 0 ≤ x4_1
      ·rw [if_pos c7] at H
       have c7b0 : decide (0 ≤ x4_1) = true := decide_eq_true c7
       clear c7
       by_cases c8 : x4_1 < (x3_1.length : Int)
       ·rw [if_pos c8] at H
        have c8b0 : decide (x4_1 < (x3_1.length : Int)) = true := decide_eq_true c8
        clear c8
        obtain ⟨y182, hy182⟩ : ∃ y_ : List Int, y_ = (x3_1.set (x4_1 : Int).toNat (rd l0 x4_1)) := ⟨_, rfl⟩
        replace H : (laws_toIntS.l0 k1 l0 y182 (wrap64 (x4_1 + 1))) = some r := by first | (rw [hy182]; with_reducible exact H) | (have H2_ := (Option.bind_some _ _).symm.trans H; rw [hy182]; with_reducible exact H2_) | (have H2_ := (Option.bind_some _ _).symm.trans H; with_reducible exact H2_) | with_reducible exact H | (rw [hy182]; exact H) | exact H
        have Ny182 := Aside0.mk hy182
        clear hy182
        have H' := Aside0.mk H
        clear H
        have p181 : 0 ≤ (x4_1 : Int) := of_decide_eq_true (by first | (with_reducible assumption) | assumption)
        have q181 : x4_1 < (l0.length : Int) := of_decide_eq_true (by first | (with_reducible assumption) | assumption)
        obtain ⟨ad181, e181, hx181_0⟩ := Kd.at_int HR0.out x4_1 p181 q181
        cases e181
        replace hx181_0 := hx_ HB hx181_0
        replace p181 := eq_true p181
        replace q181 := eq_true q181
        have p9 : 0 ≤ (x4_1 : Int) := of_decide_eq_true (by first | (with_reducible assumption) | assumption)
        have q9 : (x4_1 : Int) < ((x3_1.length : Int) : Int) := of_decide_eq_true (by first | (with_reducible assumption) | assumption)
        obtain ⟨go9, co9, eo9, gb9, gl9, cl9, HG9⟩ := Kd.R_form HO_3.out (by omega)
        (first | cases eo9 | (injection eo9 with ea_ en_ ec_; (first | subst ea_ | (injection ea_ with ea_; subst ea_)); subst ec_; clear en_))
        have GB9 := Aside0.mk gb9
        have GG9 := Aside0.mk HG9
        clear gb9 gl9 HG9
        obtain ⟨hx9_0, hf9_0⟩ := Kd.R_celln 0 HO_3.out (x4_1 : Int) p9 q9
        replace p9 := eq_true p9
        replace q9 := eq_true q9
        have HP10 := Kd.R_putg HO_3.out (x4_1 : Int) (rd l0 x4_1)
        go_wp2_with (first | ((with_reducible refine gate_store (t := 3) (p := 20) rfl ?_); refine store_event (t := 3) (p := 20) (v := ?vo_w11) (w1 := (wr.setCell ⟨go9, (x4_1 : Int).toNat, none⟩ (.int .i64 (rd l0 x4_1)))) ?hg ?ho ?hn ?hr ?_; (case ho => rfl); (case hg => rfl); (case hn => rfl); (case hr => first | (go_simp; done) | (go_simp; rfl)); intro w11 hw; have hg : wr.grownBy w11 (some go9) := (by rw [hw]; exact HP10.2); have hp_ : Kd.R (Kd.int .i64) 3 w11 w.heap.size (fun _ => True) (.slice (some ⟨go9, 0, none⟩) x3_1.length co9) y182 := (by rw [hw, Ny182.out]; exact HP10.1); clear HP10; replace HO_3 := ak (hp_); replace HB := ak ((by rw [hw]; exact below_set (HB.out) GB9.out : Below w.heap.size w w11)); clear hg hw hp_))
        go_roundg k1
        case measure => have := HK1.out; omega
        case rel => exact ⟨(y182), (wrap64 (x4_1 + 1)), (by first | rfl | (simp; done) | (simp [*]; done)), H', ⟨by have := HK1.out; omega⟩, ⟨PR HO_3⟩, ⟨PB⟩⟩
       ·rw [if_neg c8] at H
        exact absurd H (by simp)
      ·rw [if_neg c7] at H
       exact absurd H (by simp)
     ·rw [if_neg c6] at H
      have c6b0 : decide (x4_1 < (l0.length : Int)) = false := decide_eq_false c6
      clear c6
      obtain rfl := Option.some.inj H
      go_wp2
      go_ret
      exact ⟨_, RT, by (with_reducible repeat (first | apply Kd.R_alloc | apply Kd.R_drewN | apply Kd.R_drew)); exact HO_3.out, PB⟩
  ·rw [if_neg c3] at H
   exact absurd H (by simp)
 ·rw [if_neg c2] at H
  exact absurd H (by simp)

end Go.Proofs.Ytmcfdpodoebokaa.MFnExactAddCaptures
