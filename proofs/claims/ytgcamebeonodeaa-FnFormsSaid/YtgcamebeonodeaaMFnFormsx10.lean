-- Written by a program of this session out of the translation's own print. Not trusted: Lean checks it.
import Derived.Test.YtgcamebeonodeaaShr2
import Derived.Test.YtgcamebeonodeaaMFnFormsx0
import Derived.Test.YtgcamebeonodeaaMFnFormsx9
namespace Go.Proofs.Ytgcamebeonodeaa.MFnForms
open Go.RowKit Go.Proofs.YtgcamebeonodeaaW.PrintWords Go.Proofs.YtgcamebeonodeaaW.PrintLast Go.Proofs.YtgcamebeonodeaaW.PrintMore
attribute [local go_sem] max2_int min2_int max_two min_two max_three min_three max_four min_four   -- for this text's walks alone
set_option linter.unusedVariables false
set_option linter.unusedSimpArgs false

/-! ### spec_AreCaptures: function 55 -/
def spec_AreCaptures.l0 : Nat → List (S40) → Int → Option (Bool)
  | 0, _, _ => none
  | k + 1, x0, x3 => if x3 < (x0.length : Int) then (if 0 ≤ x3 then ((spec_IsAddress.f ((rd_T40 x0 x3).f0.f0) ((rd_T40 x0 x3).f0.f1) ((rd_T40 x0 x3).f0.f2)).bind fun t428 => (if t428 = true then ((spec_l1In.f ((rd_T40 x0 x3).f1) 0 2000).bind fun t430 => (if t430 = true then ((spec_IsResource.f k ((rd_T40 x0 x3).f2.f0) ((rd_T40 x0 x3).f2.f1) ((rd_T40 x0 x3).f2.f2.f0) ((rd_T40 x0 x3).f2.f2.f1) ((rd_T40 x0 x3).f2.f2.f2)).bind fun t432 => (if t432 = true then (spec_AreCaptures.l0 k x0 (wrap64 (x3 + 1))) else (some false))) else (some false))) else (some false))) else (none)) else (some (decide ((x0.length : Int) ≤ 20)))
def spec_AreCaptures.f (k : Nat) (l0 : List (S40)) : Option (Bool) := spec_AreCaptures.l0 k l0 0
set_option maxHeartbeats 8000000 in
set_option maxRecDepth 100000 in
theorem spec_AreCaptures.calls (k : Nat) (A0 : Option Addr) (c0 : Nat) (l0 : List (S40)) (r : Bool) (w : World) (hr0 : Kd.C k40 w A0 l0.length l0) (hc0 : l0.length ≤ c0) (h : spec_AreCaptures.f k l0 = some r) :
  Calls Try.prog 55 #[.slice A0 l0.length c0] w fun e w' => e = .returned (.bool r) ∧ Below w.heap.size w w' := by
 have hu26 := Try.underlying26
 have hu38 := Try.underlying38
 have HR0 := Aside0.mk hr0
 have HC0 := Aside0.mk hc0
 clear hr0 hc0
 have HB := ak (Below.refl w.heap.size w)
 have H : (spec_AreCaptures.l0 k l0 0) = some r := h
 clear h
 have H' := Aside0.mk H
 clear H
 go_enter Try.func55, Try.ntmps55
 go_wp2
 go_loopg [3] k (fun kq v3 w' => ∃ (x3_1 : Int), v3 = .int .i64 x3_1 ∧ Aside0 (spec_AreCaptures.l0 kq l0 x3_1 = some r) ∧ Aside0 (kq ≤ k) ∧ Aside0 (Below w.heap.size w w'))
 case atStart => exact ⟨(0), (by first | rfl | (simp; done) | (simp [*]; done)), H', ⟨Nat.le_refl _⟩, ⟨PB⟩⟩
 case round =>
  clear H'
  obtain ⟨x3_1, rfl, HA, HK1, HB⟩ := hrel
  cases gk with
  | zero => exact absurd HA.out (by simp [spec_AreCaptures.l0])
  | succ k1 =>
   have H := HA.out
   clear HA
   simp only [spec_AreCaptures.l0] at H
   by_cases c2 : x3_1 < (l0.length : Int)
   ·rw [if_pos c2] at H
    have c2b0 : decide (x3_1 < (l0.length : Int)) = true := decide_eq_true c2
    clear c2
    by_cases c3 : 0 ≤ x3_1
    ·rw [if_pos c3] at H
     have c3b0 : decide (0 ≤ x3_1) = true := decide_eq_true c3
     clear c3
     replace H := Option.bind_eq_some_iff.mp H
     obtain ⟨t428, A40, H⟩ := H
     replace H : (if t428 = true then ((spec_l1In.f ((rd_T40 l0 x3_1).f1) 0 2000).bind fun t430 => (if t430 = true then ((spec_IsResource.f k1 ((rd_T40 l0 x3_1).f2.f0) ((rd_T40 l0 x3_1).f2.f1) ((rd_T40 l0 x3_1).f2.f2.f0) ((rd_T40 l0 x3_1).f2.f2.f1) ((rd_T40 l0 x3_1).f2.f2.f2)).bind fun t432 => (if t432 = true then (spec_AreCaptures.l0 k1 l0 (wrap64 (x3_1 + 1))) else (some false))) else (some false))) else (some false)) = some r := H
     have A4 := Aside0.mk A40
     clear A40
     by_cases c5 : t428 = true
     ·subst c5
      have H1 : ((spec_l1In.f ((rd_T40 l0 x3_1).f1) 0 2000).bind fun t430 => (if t430 = true then ((spec_IsResource.f k1 ((rd_T40 l0 x3_1).f2.f0) ((rd_T40 l0 x3_1).f2.f1) ((rd_T40 l0 x3_1).f2.f2.f0) ((rd_T40 l0 x3_1).f2.f2.f1) ((rd_T40 l0 x3_1).f2.f2.f2)).bind fun t432 => (if t432 = true then (spec_AreCaptures.l0 k1 l0 (wrap64 (x3_1 + 1))) else (some false))) else (some false))) = some r := by rw [if_pos rfl] at H; exact H
      clear H
      have H := H1
      clear H1
      replace H := Option.bind_eq_some_iff.mp H
      obtain ⟨t430, A60, H⟩ := H
      replace H : (if t430 = true then ((spec_IsResource.f k1 ((rd_T40 l0 x3_1).f2.f0) ((rd_T40 l0 x3_1).f2.f1) ((rd_T40 l0 x3_1).f2.f2.f0) ((rd_T40 l0 x3_1).f2.f2.f1) ((rd_T40 l0 x3_1).f2.f2.f2)).bind fun t432 => (if t432 = true then (spec_AreCaptures.l0 k1 l0 (wrap64 (x3_1 + 1))) else (some false))) else (some false)) = some r := H
      have A6 := Aside0.mk A60
      clear A60
      by_cases c7 : t430 = true
      ·subst c7
       have H1 : ((spec_IsResource.f k1 ((rd_T40 l0 x3_1).f2.f0) ((rd_T40 l0 x3_1).f2.f1) ((rd_T40 l0 x3_1).f2.f2.f0) ((rd_T40 l0 x3_1).f2.f2.f1) ((rd_T40 l0 x3_1).f2.f2.f2)).bind fun t432 => (if t432 = true then (spec_AreCaptures.l0 k1 l0 (wrap64 (x3_1 + 1))) else (some false))) = some r := by rw [if_pos rfl] at H; exact H
       clear H
       have H := H1
       clear H1
       replace H := Option.bind_eq_some_iff.mp H
       obtain ⟨t432, A80, H⟩ := H
       replace H : (if t432 = true then (spec_AreCaptures.l0 k1 l0 (wrap64 (x3_1 + 1))) else (some false)) = some r := H
       have A8 := Aside0.mk A80
       clear A80
       by_cases c9 : t432 = true
       ·subst c9
        have H1 : (spec_AreCaptures.l0 k1 l0 (wrap64 (x3_1 + 1))) = some r := by rw [if_pos rfl] at H; exact H
        clear H
        have H := H1
        clear H1
        have H' := Aside0.mk H
        clear H
        have p427 : 0 ≤ (x3_1 : Int) := of_decide_eq_true (by first | (with_reducible assumption) | assumption)
        have q427 : x3_1 < (l0.length : Int) := of_decide_eq_true (by first | (with_reducible assumption) | assumption)
        obtain ⟨ad427, A427_5, c427_5, e427, hx427_0, hx427_1, hx427_2, hx427_3, hx427_4, hx427_5, hx427_6, hx427_7, hx427_8, hl427_5, hi427_5⟩ := at_T40 HR0.out x3_1 p427 q427
        cases e427
        replace hx427_0 := hx_ HB hx427_0
        replace hx427_1 := hx_ HB hx427_1
        replace hx427_2 := hx_ HB hx427_2
        replace hx427_3 := hx_ HB hx427_3
        replace hx427_4 := hx_ HB hx427_4
        replace hx427_5 := hx_ HB hx427_5
        replace hx427_6 := hx_ HB hx427_6
        replace hx427_7 := hx_ HB hx427_7
        replace hx427_8 := hx_ HB hx427_8
        have HR427_5 := Aside0.mk hi427_5
        have HC427_5 := Aside0.mk hl427_5
        clear hi427_5 hl427_5
        replace p427 := eq_true p427
        replace q427 := eq_true q427
        go_wp2_with (first | ((with_reducible refine gate_callee (f := 108) rfl ?_); refine goesL_ (some 15) rfl rfl Try.func108 KR rfl #[.agg #[.int .i64 ((rd_T40 l0 x3_1).f0.f0), .int .i64 ((rd_T40 l0 x3_1).f0.f1), .int .i64 ((rd_T40 l0 x3_1).f0.f2)]] rfl AR ?_; (with_reducible refine (spec_IsAddress.calls ((rd_T40 l0 x3_1).f0.f0) ((rd_T40 l0 x3_1).f0.f1) ((rd_T40 l0 x3_1).f0.f2) true _ A4.out).mono ?_); rintro e w10 ⟨rfl, hb⟩; refine ⟨_, rfl, ?_⟩; replace HB := bs HB hb; (try clear hb); (try clear hb2); (try clear hk); (try clear hi); have p429 : 0 ≤ (x3_1 : Int) := of_decide_eq_true (by first | (with_reducible assumption) | assumption); have q429 : x3_1 < (l0.length : Int) := of_decide_eq_true (by first | (with_reducible assumption) | assumption); obtain ⟨ad429, A429_5, c429_5, e429, hx429_0, hx429_1, hx429_2, hx429_3, hx429_4, hx429_5, hx429_6, hx429_7, hx429_8, hl429_5, hi429_5⟩ := at_T40 HR0.out x3_1 p429 q429; obtain rfl : ad427 = ad429 := (by injection e429); replace hx429_0 := hx_ HB hx429_0; replace hx429_1 := hx_ HB hx429_1; replace hx429_2 := hx_ HB hx429_2; replace hx429_3 := hx_ HB hx429_3; replace hx429_4 := hx_ HB hx429_4; replace hx429_5 := hx_ HB hx429_5; replace hx429_6 := hx_ HB hx429_6; replace hx429_7 := hx_ HB hx429_7; replace hx429_8 := hx_ HB hx429_8; have HR429_5 := Aside0.mk hi429_5; have HC429_5 := Aside0.mk hl429_5; clear hi429_5 hl429_5; replace p429 := eq_true p429; replace q429 := eq_true q429) | (go_at_call 91; (with_reducible refine (spec_l1In.calls ((rd_T40 l0 x3_1).f1) 0 2000 true _ A6.out).mono ?_); rintro e w' ⟨rfl, ⟨nd, rfl⟩⟩; have p431 : 0 ≤ (x3_1 : Int) := of_decide_eq_true (by first | (with_reducible assumption) | assumption); have q431 : x3_1 < (l0.length : Int) := of_decide_eq_true (by first | (with_reducible assumption) | assumption); obtain ⟨ad431, A431_5, c431_5, e431, hx431_0, hx431_1, hx431_2, hx431_3, hx431_4, hx431_5, hx431_6, hx431_7, hx431_8, hl431_5, hi431_5⟩ := at_T40 HR0.out x3_1 p431 q431; obtain rfl : ad427 = ad431 := (by injection e431); replace hx431_0 := hx_ HB hx431_0; replace hx431_1 := hx_ HB hx431_1; replace hx431_2 := hx_ HB hx431_2; replace hx431_3 := hx_ HB hx431_3; replace hx431_4 := hx_ HB hx431_4; replace hx431_5 := hx_ HB hx431_5; replace hx431_6 := hx_ HB hx431_6; replace hx431_7 := hx_ HB hx431_7; replace hx431_8 := hx_ HB hx431_8; have HR431_5 := Aside0.mk hi431_5; have HC431_5 := Aside0.mk hl431_5; clear hi431_5 hl431_5; replace p431 := eq_true p431; replace q431 := eq_true q431; have ea_ := Option.some.inj (hx429_5.symm.trans hx431_5); injection ea_ with ea_ en_ ec_; subst ea_; subst ec_; clear en_) | (go_at_call 122; (with_reducible refine (spec_IsResource.calls k1 ((rd_T40 l0 x3_1).f2.f0) _ _ ((rd_T40 l0 x3_1).f2.f1) ((rd_T40 l0 x3_1).f2.f2.f0) ((rd_T40 l0 x3_1).f2.f2.f1) ((rd_T40 l0 x3_1).f2.f2.f2) true _ ?side1 ?side2 A8.out).mono ?_); (case side1 => repeat (first | exact (Kd.C_below HR431_5.out PB) | (with_reducible refine Kd.C_alloc ?_ _) | (with_reducible refine Kd.C_drewN ?_ _) | (with_reducible refine Kd.C_drew ?_))); (case side2 => exact HC431_5.out); rintro e w11 ⟨rfl, hb⟩; replace HB := bs HB hb; (try clear hb); (try clear hb2); (try clear hk); (try clear hi)))
        go_roundg k1
        case measure => have := HK1.out; omega
        case rel => exact ⟨(wrap64 (x3_1 + 1)), (by first | rfl | (simp; done) | (simp [*]; done)), H', ⟨by have := HK1.out; omega⟩, ⟨PB⟩⟩
       ·replace c9 := Bool.eq_false_iff.mpr c9
        subst c9
        have H1 : (some false) = some r := by rw [if_neg (show ¬ (false = true) by decide)] at H; exact H
        clear H
        have H := H1
        clear H1
        obtain rfl := Option.some.inj H
        have p427 : 0 ≤ (x3_1 : Int) := of_decide_eq_true (by first | (with_reducible assumption) | assumption)
        have q427 : x3_1 < (l0.length : Int) := of_decide_eq_true (by first | (with_reducible assumption) | assumption)
        obtain ⟨ad427, A427_5, c427_5, e427, hx427_0, hx427_1, hx427_2, hx427_3, hx427_4, hx427_5, hx427_6, hx427_7, hx427_8, hl427_5, hi427_5⟩ := at_T40 HR0.out x3_1 p427 q427
        cases e427
        replace hx427_0 := hx_ HB hx427_0
        replace hx427_1 := hx_ HB hx427_1
        replace hx427_2 := hx_ HB hx427_2
        replace hx427_3 := hx_ HB hx427_3
        replace hx427_4 := hx_ HB hx427_4
        replace hx427_5 := hx_ HB hx427_5
        replace hx427_6 := hx_ HB hx427_6
        replace hx427_7 := hx_ HB hx427_7
        replace hx427_8 := hx_ HB hx427_8
        have HR427_5 := Aside0.mk hi427_5
        have HC427_5 := Aside0.mk hl427_5
        clear hi427_5 hl427_5
        replace p427 := eq_true p427
        replace q427 := eq_true q427
        go_wp2_with (first | ((with_reducible refine gate_callee (f := 108) rfl ?_); refine goesL_ (some 15) rfl rfl Try.func108 KR rfl #[.agg #[.int .i64 ((rd_T40 l0 x3_1).f0.f0), .int .i64 ((rd_T40 l0 x3_1).f0.f1), .int .i64 ((rd_T40 l0 x3_1).f0.f2)]] rfl AR ?_; (with_reducible refine (spec_IsAddress.calls ((rd_T40 l0 x3_1).f0.f0) ((rd_T40 l0 x3_1).f0.f1) ((rd_T40 l0 x3_1).f0.f2) true _ A4.out).mono ?_); rintro e w12 ⟨rfl, hb⟩; refine ⟨_, rfl, ?_⟩; replace HB := bs HB hb; (try clear hb); (try clear hb2); (try clear hk); (try clear hi); have p429 : 0 ≤ (x3_1 : Int) := of_decide_eq_true (by first | (with_reducible assumption) | assumption); have q429 : x3_1 < (l0.length : Int) := of_decide_eq_true (by first | (with_reducible assumption) | assumption); obtain ⟨ad429, A429_5, c429_5, e429, hx429_0, hx429_1, hx429_2, hx429_3, hx429_4, hx429_5, hx429_6, hx429_7, hx429_8, hl429_5, hi429_5⟩ := at_T40 HR0.out x3_1 p429 q429; obtain rfl : ad427 = ad429 := (by injection e429); replace hx429_0 := hx_ HB hx429_0; replace hx429_1 := hx_ HB hx429_1; replace hx429_2 := hx_ HB hx429_2; replace hx429_3 := hx_ HB hx429_3; replace hx429_4 := hx_ HB hx429_4; replace hx429_5 := hx_ HB hx429_5; replace hx429_6 := hx_ HB hx429_6; replace hx429_7 := hx_ HB hx429_7; replace hx429_8 := hx_ HB hx429_8; have HR429_5 := Aside0.mk hi429_5; have HC429_5 := Aside0.mk hl429_5; clear hi429_5 hl429_5; replace p429 := eq_true p429; replace q429 := eq_true q429) | (go_at_call 91; (with_reducible refine (spec_l1In.calls ((rd_T40 l0 x3_1).f1) 0 2000 true _ A6.out).mono ?_); rintro e w' ⟨rfl, ⟨nd, rfl⟩⟩; have p431 : 0 ≤ (x3_1 : Int) := of_decide_eq_true (by first | (with_reducible assumption) | assumption); have q431 : x3_1 < (l0.length : Int) := of_decide_eq_true (by first | (with_reducible assumption) | assumption); obtain ⟨ad431, A431_5, c431_5, e431, hx431_0, hx431_1, hx431_2, hx431_3, hx431_4, hx431_5, hx431_6, hx431_7, hx431_8, hl431_5, hi431_5⟩ := at_T40 HR0.out x3_1 p431 q431; obtain rfl : ad427 = ad431 := (by injection e431); replace hx431_0 := hx_ HB hx431_0; replace hx431_1 := hx_ HB hx431_1; replace hx431_2 := hx_ HB hx431_2; replace hx431_3 := hx_ HB hx431_3; replace hx431_4 := hx_ HB hx431_4; replace hx431_5 := hx_ HB hx431_5; replace hx431_6 := hx_ HB hx431_6; replace hx431_7 := hx_ HB hx431_7; replace hx431_8 := hx_ HB hx431_8; have HR431_5 := Aside0.mk hi431_5; have HC431_5 := Aside0.mk hl431_5; clear hi431_5 hl431_5; replace p431 := eq_true p431; replace q431 := eq_true q431; have ea_ := Option.some.inj (hx429_5.symm.trans hx431_5); injection ea_ with ea_ en_ ec_; subst ea_; subst ec_; clear en_) | (go_at_call 122; (with_reducible refine (spec_IsResource.calls k1 ((rd_T40 l0 x3_1).f2.f0) _ _ ((rd_T40 l0 x3_1).f2.f1) ((rd_T40 l0 x3_1).f2.f2.f0) ((rd_T40 l0 x3_1).f2.f2.f1) ((rd_T40 l0 x3_1).f2.f2.f2) false _ ?side1 ?side2 A8.out).mono ?_); (case side1 => repeat (first | exact (Kd.C_below HR431_5.out PB) | (with_reducible refine Kd.C_alloc ?_ _) | (with_reducible refine Kd.C_drewN ?_ _) | (with_reducible refine Kd.C_drew ?_))); (case side2 => exact HC431_5.out); rintro e w13 ⟨rfl, hb⟩; replace HB := bs HB hb; (try clear hb); (try clear hb2); (try clear hk); (try clear hi)))
        go_ret
        exact ⟨RT, PB⟩
      ·replace c7 := Bool.eq_false_iff.mpr c7
       subst c7
       have H1 : (some false) = some r := by rw [if_neg (show ¬ (false = true) by decide)] at H; exact H
       clear H
       have H := H1
       clear H1
       obtain rfl := Option.some.inj H
       have p427 : 0 ≤ (x3_1 : Int) := of_decide_eq_true (by first | (with_reducible assumption) | assumption)
       have q427 : x3_1 < (l0.length : Int) := of_decide_eq_true (by first | (with_reducible assumption) | assumption)
       obtain ⟨ad427, A427_5, c427_5, e427, hx427_0, hx427_1, hx427_2, hx427_3, hx427_4, hx427_5, hx427_6, hx427_7, hx427_8, hl427_5, hi427_5⟩ := at_T40 HR0.out x3_1 p427 q427
       cases e427
       replace hx427_0 := hx_ HB hx427_0
       replace hx427_1 := hx_ HB hx427_1
       replace hx427_2 := hx_ HB hx427_2
       replace hx427_3 := hx_ HB hx427_3
       replace hx427_4 := hx_ HB hx427_4
       replace hx427_5 := hx_ HB hx427_5
       replace hx427_6 := hx_ HB hx427_6
       replace hx427_7 := hx_ HB hx427_7
       replace hx427_8 := hx_ HB hx427_8
       have HR427_5 := Aside0.mk hi427_5
       have HC427_5 := Aside0.mk hl427_5
       clear hi427_5 hl427_5
       replace p427 := eq_true p427
       replace q427 := eq_true q427
       go_wp2_with (first | ((with_reducible refine gate_callee (f := 108) rfl ?_); refine goesL_ (some 15) rfl rfl Try.func108 KR rfl #[.agg #[.int .i64 ((rd_T40 l0 x3_1).f0.f0), .int .i64 ((rd_T40 l0 x3_1).f0.f1), .int .i64 ((rd_T40 l0 x3_1).f0.f2)]] rfl AR ?_; (with_reducible refine (spec_IsAddress.calls ((rd_T40 l0 x3_1).f0.f0) ((rd_T40 l0 x3_1).f0.f1) ((rd_T40 l0 x3_1).f0.f2) true _ A4.out).mono ?_); rintro e w14 ⟨rfl, hb⟩; refine ⟨_, rfl, ?_⟩; replace HB := bs HB hb; (try clear hb); (try clear hb2); (try clear hk); (try clear hi); have p429 : 0 ≤ (x3_1 : Int) := of_decide_eq_true (by first | (with_reducible assumption) | assumption); have q429 : x3_1 < (l0.length : Int) := of_decide_eq_true (by first | (with_reducible assumption) | assumption); obtain ⟨ad429, A429_5, c429_5, e429, hx429_0, hx429_1, hx429_2, hx429_3, hx429_4, hx429_5, hx429_6, hx429_7, hx429_8, hl429_5, hi429_5⟩ := at_T40 HR0.out x3_1 p429 q429; obtain rfl : ad427 = ad429 := (by injection e429); replace hx429_0 := hx_ HB hx429_0; replace hx429_1 := hx_ HB hx429_1; replace hx429_2 := hx_ HB hx429_2; replace hx429_3 := hx_ HB hx429_3; replace hx429_4 := hx_ HB hx429_4; replace hx429_5 := hx_ HB hx429_5; replace hx429_6 := hx_ HB hx429_6; replace hx429_7 := hx_ HB hx429_7; replace hx429_8 := hx_ HB hx429_8; have HR429_5 := Aside0.mk hi429_5; have HC429_5 := Aside0.mk hl429_5; clear hi429_5 hl429_5; replace p429 := eq_true p429; replace q429 := eq_true q429) | (go_at_call 91; (with_reducible refine (spec_l1In.calls ((rd_T40 l0 x3_1).f1) 0 2000 false _ A6.out).mono ?_); rintro e w' ⟨rfl, ⟨nd, rfl⟩⟩))
       go_ret
       exact ⟨RT, PB⟩
     ·replace c5 := Bool.eq_false_iff.mpr c5
      subst c5
      have H1 : (some false) = some r := by rw [if_neg (show ¬ (false = true) by decide)] at H; exact H
      clear H
      have H := H1
      clear H1
      obtain rfl := Option.some.inj H
      have p427 : 0 ≤ (x3_1 : Int) := of_decide_eq_true (by first | (with_reducible assumption) | assumption)
      have q427 : x3_1 < (l0.length : Int) := of_decide_eq_true (by first | (with_reducible assumption) | assumption)
      obtain ⟨ad427, A427_5, c427_5, e427, hx427_0, hx427_1, hx427_2, hx427_3, hx427_4, hx427_5, hx427_6, hx427_7, hx427_8, hl427_5, hi427_5⟩ := at_T40 HR0.out x3_1 p427 q427
      cases e427
      replace hx427_0 := hx_ HB hx427_0
      replace hx427_1 := hx_ HB hx427_1
      replace hx427_2 := hx_ HB hx427_2
      replace hx427_3 := hx_ HB hx427_3
      replace hx427_4 := hx_ HB hx427_4
      replace hx427_5 := hx_ HB hx427_5
      replace hx427_6 := hx_ HB hx427_6
      replace hx427_7 := hx_ HB hx427_7
      replace hx427_8 := hx_ HB hx427_8
      have HR427_5 := Aside0.mk hi427_5
      have HC427_5 := Aside0.mk hl427_5
      clear hi427_5 hl427_5
      replace p427 := eq_true p427
      replace q427 := eq_true q427
      go_wp2_with (first | ((with_reducible refine gate_callee (f := 108) rfl ?_); refine goesL_ (some 15) rfl rfl Try.func108 KR rfl #[.agg #[.int .i64 ((rd_T40 l0 x3_1).f0.f0), .int .i64 ((rd_T40 l0 x3_1).f0.f1), .int .i64 ((rd_T40 l0 x3_1).f0.f2)]] rfl AR ?_; (with_reducible refine (spec_IsAddress.calls ((rd_T40 l0 x3_1).f0.f0) ((rd_T40 l0 x3_1).f0.f1) ((rd_T40 l0 x3_1).f0.f2) false _ A4.out).mono ?_); rintro e w15 ⟨rfl, hb⟩; refine ⟨_, rfl, ?_⟩; replace HB := bs HB hb; (try clear hb); (try clear hb2); (try clear hk); (try clear hi)))
      go_ret
      exact ⟨RT, PB⟩
    ·rw [if_neg c3] at H
     exact absurd H (by simp)
   ·rw [if_neg c2] at H
    have c2b0 : decide (x3_1 < (l0.length : Int)) = false := decide_eq_false c2
    clear c2
    obtain rfl := Option.some.inj H
    go_wp2
    go_ret
    exact ⟨RT, PB⟩

end Go.Proofs.Ytgcamebeonodeaa.MFnForms
