-- Written by a program of this session out of the translation's own print. Not trusted: Lean checks it.
import Derived.Test.YtgcamebeonodeaaShr2
import Derived.Test.YtgcamebeonodeaaMFnExactLearnFormx0
import Derived.Test.YtgcamebeonodeaaMFnExactLearnFormx2
namespace Go.Proofs.Ytgcamebeonodeaa.MFnExactLearnForm
open Go.RowKit Go.Proofs.YtgcamebeonodeaaW.PrintWords Go.Proofs.YtgcamebeonodeaaW.PrintLast Go.Proofs.YtgcamebeonodeaaW.PrintMore
attribute [local go_sem] max2_int min2_int max_two min_two max_three min_three max_four min_four   -- for this text's walks alone
set_option linter.unusedVariables false
set_option linter.unusedSimpArgs false

/-! ### spec_AreCaptures: function 55 -/
def spec_AreCaptures.l0 : Nat → List (S40) → Int → Option (Bool)
  | 0, _, _ => none
  | k + 1, x0, x3 => if x3 < (x0.length : Int) then (if 0 ≤ x3 then ((spec_IsAddress.f ((rd_T40 x0 x3).f0.f0) ((rd_T40 x0 x3).f0.f1) ((rd_T40 x0 x3).f0.f2)).bind fun t118 => (if t118 = true then ((spec_l1In.f ((rd_T40 x0 x3).f1) 0 2000).bind fun t120 => (if t120 = true then ((spec_IsResource.f k ((rd_T40 x0 x3).f2.f0) ((rd_T40 x0 x3).f2.f1) ((rd_T40 x0 x3).f2.f2.f0) ((rd_T40 x0 x3).f2.f2.f1) ((rd_T40 x0 x3).f2.f2.f2)).bind fun t122 => (if t122 = true then (spec_AreCaptures.l0 k x0 (wrap64 (x3 + 1))) else (some false))) else (some false))) else (some false))) else (none)) else (some (decide ((x0.length : Int) ≤ 20)))
def spec_AreCaptures.f (k : Nat) (l0 : List (S40)) : Option (Bool) := spec_AreCaptures.l0 k l0 0
set_option maxHeartbeats 8000000 in
set_option maxRecDepth 100000 in
theorem spec_AreCaptures.calls (k : Nat) (A0 : Option Addr) (c0 : Nat) (l0 : List (S40)) (r : Bool) (w : World) (hr0 : Kd.C k40 w A0 l0.length l0) (hc0 : l0.length ≤ c0) (h : spec_AreCaptures.f k l0 = some r) :
  Calls Try.prog 55 #[.slice A0 l0.length c0] w fun e w' => e = .returned (.bool r) ∧ Below w.heap.size w w' := by
 have hu26 := Try.underlying26
 have hu38 := Try.underlying38
 have HR0 := Aside0.mk hr0
 have HC0 := Aside0.mk hc0
 clear hr0 hc0
 have HB := ak (Below.refl w.heap.size w)
 have H : (spec_AreCaptures.l0 k l0 0) = some r := h
 clear h
 have H' := Aside0.mk H
 clear H
 go_enter Try.func55, Try.ntmps55
 go_wp2
 go_loopg [3] k (fun kq v3 w' => ∃ (x3_1 : Int), v3 = .int .i64 x3_1 ∧ Aside0 (spec_AreCaptures.l0 kq l0 x3_1 = some r) ∧ Aside0 (kq ≤ k) ∧ Aside0 (Below w.heap.size w w'))
 case atStart => exact ⟨(0), (by first | rfl | (simp; done) | (simp [*]; done)), H', ⟨Nat.le_refl _⟩, ⟨PB⟩⟩
 case round =>
  clear H'
  obtain ⟨x3_1, rfl, HA, HK1, HB⟩ := hrel
  cases gk with
  | zero => exact absurd HA.out (by simp [spec_AreCaptures.l0])
  | succ k1 =>
   have H := HA.out
   clear HA
   simp only [spec_AreCaptures.l0] at H
   by_cases c2 : x3_1 < (l0.length : Int)
   ·rw [if_pos c2] at H
    have c2b0 : decide (x3_1 < (l0.length : Int)) = true := decide_eq_true c2
    clear c2
    by_cases c3 : 0 ≤ x3_1
    ·rw [if_pos c3] at H
     have c3b0 : decide (0 ≤ x3_1) = true := decide_eq_true c3
     clear c3
     replace H := Option.bind_eq_some_iff.mp H
     obtain ⟨t118, A40, H⟩ := H
     replace H : (if t118 = true then ((spec_l1In.f ((rd_T40 l0 x3_1).f1) 0 2000).bind fun t120 => (if t120 = true then ((spec_IsResource.f k1 ((rd_T40 l0 x3_1).f2.f0) ((rd_T40 l0 x3_1).f2.f1) ((rd_T40 l0 x3_1).f2.f2.f0) ((rd_T40 l0 x3_1).f2.f2.f1) ((rd_T40 l0 x3_1).f2.f2.f2)).bind fun t122 => (if t122 = true then (spec_AreCaptures.l0 k1 l0 (wrap64 (x3_1 + 1))) else (some false))) else (some false))) else (some false)) = some r := H
     have A4 := Aside0.mk A40
     clear A40
     by_cases c5 : t118 = true
     ·subst c5
      have H1 : ((spec_l1In.f ((rd_T40 l0 x3_1).f1) 0 2000).bind fun t120 => (if t120 = true then ((spec_IsResource.f k1 ((rd_T40 l0 x3_1).f2.f0) ((rd_T40 l0 x3_1).f2.f1) ((rd_T40 l0 x3_1).f2.f2.f0) ((rd_T40 l0 x3_1).f2.f2.f1) ((rd_T40 l0 x3_1).f2.f2.f2)).bind fun t122 => (if t122 = true then (spec_AreCaptures.l0 k1 l0 (wrap64 (x3_1 + 1))) else (some false))) else (some false))) = some r := by rw [if_pos rfl] at H; exact H
      clear H
      have H := H1
      clear H1
      replace H := Option.bind_eq_some_iff.mp H
      obtain ⟨t120, A60, H⟩ := H
      replace H : (if t120 = true then ((spec_IsResource.f k1 ((rd_T40 l0 x3_1).f2.f0) ((rd_T40 l0 x3_1).f2.f1) ((rd_T40 l0 x3_1).f2.f2.f0) ((rd_T40 l0 x3_1).f2.f2.f1) ((rd_T40 l0 x3_1).f2.f2.f2)).bind fun t122 => (if t122 = true then (spec_AreCaptures.l0 k1 l0 (wrap64 (x3_1 + 1))) else (some false))) else (some false)) = some r := H
      have A6 := Aside0.mk A60
      clear A60
      by_cases c7 : t120 = true
      ·subst c7
       have H1 : ((spec_IsResource.f k1 ((rd_T40 l0 x3_1).f2.f0) ((rd_T40 l0 x3_1).f2.f1) ((rd_T40 l0 x3_1).f2.f2.f0) ((rd_T40 l0 x3_1).f2.f2.f1) ((rd_T40 l0 x3_1).f2.f2.f2)).bind fun t122 => (if t122 = true then (spec_AreCaptures.l0 k1 l0 (wrap64 (x3_1 + 1))) else (some false))) = some r := by rw [if_pos rfl] at H; exact H
       clear H
       have H := H1
       clear H1
       replace H := Option.bind_eq_some_iff.mp H
       obtain ⟨t122, A80, H⟩ := H
       replace H : (if t122 = true then (spec_AreCaptures.l0 k1 l0 (wrap64 (x3_1 + 1))) else (some false)) = some r := H
       have A8 := Aside0.mk A80
       clear A80
       by_cases c9 : t122 = true
       ·subst c9
        have H1 : (spec_AreCaptures.l0 k1 l0 (wrap64 (x3_1 + 1))) = some r := by rw [if_pos rfl] at H; exact H
        clear H
        have H := H1
        clear H1
        have H' := Aside0.mk H
        clear H
        have p117 : 0 ≤ (x3_1 : Int) := of_decide_eq_true (by first | (with_reducible assumption) | assumption)
        have q117 : x3_1 < (l0.length : Int) := of_decide_eq_true (by first | (with_reducible assumption) | assumption)
        obtain ⟨ad117, A117_5, c117_5, e117, hx117_0, hx117_1, hx117_2, hx117_3, hx117_4, hx117_5, hx117_6, hx117_7, hx117_8, hl117_5, hi117_5⟩ := at_T40 HR0.out x3_1 p117 q117
        cases e117
        replace hx117_0 := hx_ HB hx117_0
        replace hx117_1 := hx_ HB hx117_1
        replace hx117_2 := hx_ HB hx117_2
        replace hx117_3 := hx_ HB hx117_3
        replace hx117_4 := hx_ HB hx117_4
        replace hx117_5 := hx_ HB hx117_5
        replace hx117_6 := hx_ HB hx117_6
        replace hx117_7 := hx_ HB hx117_7
        replace hx117_8 := hx_ HB hx117_8
        have HR117_5 := Aside0.mk hi117_5
        have HC117_5 := Aside0.mk hl117_5
        clear hi117_5 hl117_5
        replace p117 := eq_true p117
        replace q117 := eq_true q117
        go_wp2_with (first | ((with_reducible refine gate_callee (f := 108) rfl ?_); refine goesL_ (some 15) rfl rfl Try.func108 KR rfl #[.agg #[.int .i64 ((rd_T40 l0 x3_1).f0.f0), .int .i64 ((rd_T40 l0 x3_1).f0.f1), .int .i64 ((rd_T40 l0 x3_1).f0.f2)]] rfl AR ?_; (with_reducible refine (spec_IsAddress.calls ((rd_T40 l0 x3_1).f0.f0) ((rd_T40 l0 x3_1).f0.f1) ((rd_T40 l0 x3_1).f0.f2) true _ A4.out).mono ?_); rintro e w10 ⟨rfl, hb⟩; refine ⟨_, rfl, ?_⟩; replace HB := bs HB hb; (try clear hb); (try clear hb2); (try clear hk); (try clear hi); have p119 : 0 ≤ (x3_1 : Int) := of_decide_eq_true (by first | (with_reducible assumption) | assumption); have q119 : x3_1 < (l0.length : Int) := of_decide_eq_true (by first | (with_reducible assumption) | assumption); obtain ⟨ad119, A119_5, c119_5, e119, hx119_0, hx119_1, hx119_2, hx119_3, hx119_4, hx119_5, hx119_6, hx119_7, hx119_8, hl119_5, hi119_5⟩ := at_T40 HR0.out x3_1 p119 q119; obtain rfl : ad117 = ad119 := (by injection e119); replace hx119_0 := hx_ HB hx119_0; replace hx119_1 := hx_ HB hx119_1; replace hx119_2 := hx_ HB hx119_2; replace hx119_3 := hx_ HB hx119_3; replace hx119_4 := hx_ HB hx119_4; replace hx119_5 := hx_ HB hx119_5; replace hx119_6 := hx_ HB hx119_6; replace hx119_7 := hx_ HB hx119_7; replace hx119_8 := hx_ HB hx119_8; have HR119_5 := Aside0.mk hi119_5; have HC119_5 := Aside0.mk hl119_5; clear hi119_5 hl119_5; replace p119 := eq_true p119; replace q119 := eq_true q119) | (go_at_call 91; (with_reducible refine (spec_l1In.calls ((rd_T40 l0 x3_1).f1) 0 2000 true _ A6.out).mono ?_); rintro e w' ⟨rfl, ⟨nd, rfl⟩⟩; have p121 : 0 ≤ (x3_1 : Int) := of_decide_eq_true (by first | (with_reducible assumption) | assumption); have q121 : x3_1 < (l0.length : Int) := of_decide_eq_true (by first | (with_reducible assumption) | assumption); obtain ⟨ad121, A121_5, c121_5, e121, hx121_0, hx121_1, hx121_2, hx121_3, hx121_4, hx121_5, hx121_6, hx121_7, hx121_8, hl121_5, hi121_5⟩ := at_T40 HR0.out x3_1 p121 q121; obtain rfl : ad117 = ad121 := (by injection e121); replace hx121_0 := hx_ HB hx121_0; replace hx121_1 := hx_ HB hx121_1; replace hx121_2 := hx_ HB hx121_2; replace hx121_3 := hx_ HB hx121_3; replace hx121_4 := hx_ HB hx121_4; replace hx121_5 := hx_ HB hx121_5; replace hx121_6 := hx_ HB hx121_6; replace hx121_7 := hx_ HB hx121_7; replace hx121_8 := hx_ HB hx121_8; have HR121_5 := Aside0.mk hi121_5; have HC121_5 := Aside0.mk hl121_5; clear hi121_5 hl121_5; replace p121 := eq_true p121; replace q121 := eq_true q121; have ea_ := Option.some.inj (hx119_5.symm.trans hx121_5); injection ea_ with ea_ en_ ec_; subst ea_; subst ec_; clear en_) | (go_at_call 122; (with_reducible refine (spec_IsResource.calls k1 ((rd_T40 l0 x3_1).f2.f0) _ _ ((rd_T40 l0 x3_1).f2.f1) ((rd_T40 l0 x3_1).f2.f2.f0) ((rd_T40 l0 x3_1).f2.f2.f1) ((rd_T40 l0 x3_1).f2.f2.f2) true _ ?side1 ?side2 A8.out).mono ?_); (case side1 => repeat (first | exact (Kd.C_below HR121_5.out PB) | (with_reducible refine Kd.C_alloc ?_ _) | (with_reducible refine Kd.C_drewN ?_ _) | (with_reducible refine Kd.C_drew ?_))); (case side2 => exact HC121_5.out); rintro e w11 ⟨rfl, hb⟩; replace HB := bs HB hb; (try clear hb); (try clear hb2); (try clear hk); (try clear hi)))
        go_roundg k1
        case measure => have := HK1.out; omega
        case rel => exact ⟨(wrap64 (x3_1 + 1)), (by first | rfl | (simp; done) | (simp [*]; done)), H', ⟨by have := HK1.out; omega⟩, ⟨PB⟩⟩
       ·replace c9 := Bool.eq_false_iff.mpr c9
        subst c9
        have H1 : (some false) = some r := by rw [if_neg (show ¬ (false = true) by decide)] at H; exact H
        clear H
        have H := H1
        clear H1
        obtain rfl := Option.some.inj H
        have p117 : 0 ≤ (x3_1 : Int) := of_decide_eq_true (by first | (with_reducible assumption) | assumption)
        have q117 : x3_1 < (l0.length : Int) := of_decide_eq_true (by first | (with_reducible assumption) | assumption)
        obtain ⟨ad117, A117_5, c117_5, e117, hx117_0, hx117_1, hx117_2, hx117_3, hx117_4, hx117_5, hx117_6, hx117_7, hx117_8, hl117_5, hi117_5⟩ := at_T40 HR0.out x3_1 p117 q117
        cases e117
        replace hx117_0 := hx_ HB hx117_0
        replace hx117_1 := hx_ HB hx117_1
        replace hx117_2 := hx_ HB hx117_2
        replace hx117_3 := hx_ HB hx117_3
        replace hx117_4 := hx_ HB hx117_4
        replace hx117_5 := hx_ HB hx117_5
        replace hx117_6 := hx_ HB hx117_6
        replace hx117_7 := hx_ HB hx117_7
        replace hx117_8 := hx_ HB hx117_8
        have HR117_5 := Aside0.mk hi117_5
        have HC117_5 := Aside0.mk hl117_5
        clear hi117_5 hl117_5
        replace p117 := eq_true p117
        replace q117 := eq_true q117
        go_wp2_with (first | ((with_reducible refine gate_callee (f := 108) rfl ?_); refine goesL_ (some 15) rfl rfl Try.func108 KR rfl #[.agg #[.int .i64 ((rd_T40 l0 x3_1).f0.f0), .int .i64 ((rd_T40 l0 x3_1).f0.f1), .int .i64 ((rd_T40 l0 x3_1).f0.f2)]] rfl AR ?_; (with_reducible refine (spec_IsAddress.calls ((rd_T40 l0 x3_1).f0.f0) ((rd_T40 l0 x3_1).f0.f1) ((rd_T40 l0 x3_1).f0.f2) true _ A4.out).mono ?_); rintro e w12 ⟨rfl, hb⟩; refine ⟨_, rfl, ?_⟩; replace HB := bs HB hb; (try clear hb); (try clear hb2); (try clear hk); (try clear hi); have p119 : 0 ≤ (x3_1 : Int) := of_decide_eq_true (by first | (with_reducible assumption) | assumption); have q119 : x3_1 < (l0.length : Int) := of_decide_eq_true (by first | (with_reducible assumption) | assumption); obtain ⟨ad119, A119_5, c119_5, e119, hx119_0, hx119_1, hx119_2, hx119_3, hx119_4, hx119_5, hx119_6, hx119_7, hx119_8, hl119_5, hi119_5⟩ := at_T40 HR0.out x3_1 p119 q119; obtain rfl : ad117 = ad119 := (by injection e119); replace hx119_0 := hx_ HB hx119_0; replace hx119_1 := hx_ HB hx119_1; replace hx119_2 := hx_ HB hx119_2; replace hx119_3 := hx_ HB hx119_3; replace hx119_4 := hx_ HB hx119_4; replace hx119_5 := hx_ HB hx119_5; replace hx119_6 := hx_ HB hx119_6; replace hx119_7 := hx_ HB hx119_7; replace hx119_8 := hx_ HB hx119_8; have HR119_5 := Aside0.mk hi119_5; have HC119_5 := Aside0.mk hl119_5; clear hi119_5 hl119_5; replace p119 := eq_true p119; replace q119 := eq_true q119) | (go_at_call 91; (with_reducible refine (spec_l1In.calls ((rd_T40 l0 x3_1).f1) 0 2000 true _ A6.out).mono ?_); rintro e w' ⟨rfl, ⟨nd, rfl⟩⟩; have p121 : 0 ≤ (x3_1 : Int) := of_decide_eq_true (by first | (with_reducible assumption) | assumption); have q121 : x3_1 < (l0.length : Int) := of_decide_eq_true (by first | (with_reducible assumption) | assumption); obtain ⟨ad121, A121_5, c121_5, e121, hx121_0, hx121_1, hx121_2, hx121_3, hx121_4, hx121_5, hx121_6, hx121_7, hx121_8, hl121_5, hi121_5⟩ := at_T40 HR0.out x3_1 p121 q121; obtain rfl : ad117 = ad121 := (by injection e121); replace hx121_0 := hx_ HB hx121_0; replace hx121_1 := hx_ HB hx121_1; replace hx121_2 := hx_ HB hx121_2; replace hx121_3 := hx_ HB hx121_3; replace hx121_4 := hx_ HB hx121_4; replace hx121_5 := hx_ HB hx121_5; replace hx121_6 := hx_ HB hx121_6; replace hx121_7 := hx_ HB hx121_7; replace hx121_8 := hx_ HB hx121_8; have HR121_5 := Aside0.mk hi121_5; have HC121_5 := Aside0.mk hl121_5; clear hi121_5 hl121_5; replace p121 := eq_true p121; replace q121 := eq_true q121; have ea_ := Option.some.inj (hx119_5.symm.trans hx121_5); injection ea_ with ea_ en_ ec_; subst ea_; subst ec_; clear en_) | (go_at_call 122; (with_reducible refine (spec_IsResource.calls k1 ((rd_T40 l0 x3_1).f2.f0) _ _ ((rd_T40 l0 x3_1).f2.f1) ((rd_T40 l0 x3_1).f2.f2.f0) ((rd_T40 l0 x3_1).f2.f2.f1) ((rd_T40 l0 x3_1).f2.f2.f2) false _ ?side1 ?side2 A8.out).mono ?_); (case side1 => repeat (first | exact (Kd.C_below HR121_5.out PB) | (with_reducible refine Kd.C_alloc ?_ _) | (with_reducible refine Kd.C_drewN ?_ _) | (with_reducible refine Kd.C_drew ?_))); (case side2 => exact HC121_5.out); rintro e w13 ⟨rfl, hb⟩; replace HB := bs HB hb; (try clear hb); (try clear hb2); (try clear hk); (try clear hi)))
        go_ret
        exact ⟨RT, PB⟩
      ·replace c7 := Bool.eq_false_iff.mpr c7
       subst c7
       have H1 : (some false) = some r := by rw [if_neg (show ¬ (false = true) by decide)] at H; exact H
       clear H
       have H := H1
       clear H1
       obtain rfl := Option.some.inj H
       have p117 : 0 ≤ (x3_1 : Int) := of_decide_eq_true (by first | (with_reducible assumption) | assumption)
       have q117 : x3_1 < (l0.length : Int) := of_decide_eq_true (by first | (with_reducible assumption) | assumption)
       obtain ⟨ad117, A117_5, c117_5, e117, hx117_0, hx117_1, hx117_2, hx117_3, hx117_4, hx117_5, hx117_6, hx117_7, hx117_8, hl117_5, hi117_5⟩ := at_T40 HR0.out x3_1 p117 q117
       cases e117
       replace hx117_0 := hx_ HB hx117_0
       replace hx117_1 := hx_ HB hx117_1
       replace hx117_2 := hx_ HB hx117_2
       replace hx117_3 := hx_ HB hx117_3
       replace hx117_4 := hx_ HB hx117_4
       replace hx117_5 := hx_ HB hx117_5
       replace hx117_6 := hx_ HB hx117_6
       replace hx117_7 := hx_ HB hx117_7
       replace hx117_8 := hx_ HB hx117_8
       have HR117_5 := Aside0.mk hi117_5
       have HC117_5 := Aside0.mk hl117_5
       clear hi117_5 hl117_5
       replace p117 := eq_true p117
       replace q117 := eq_true q117
       go_wp2_with (first | ((with_reducible refine gate_callee (f := 108) rfl ?_); refine goesL_ (some 15) rfl rfl Try.func108 KR rfl #[.agg #[.int .i64 ((rd_T40 l0 x3_1).f0.f0), .int .i64 ((rd_T40 l0 x3_1).f0.f1), .int .i64 ((rd_T40 l0 x3_1).f0.f2)]] rfl AR ?_; (with_reducible refine (spec_IsAddress.calls ((rd_T40 l0 x3_1).f0.f0) ((rd_T40 l0 x3_1).f0.f1) ((rd_T40 l0 x3_1).f0.f2) true _ A4.out).mono ?_); rintro e w14 ⟨rfl, hb⟩; refine ⟨_, rfl, ?_⟩; replace HB := bs HB hb; (try clear hb); (try clear hb2); (try clear hk); (try clear hi); have p119 : 0 ≤ (x3_1 : Int) := of_decide_eq_true (by first | (with_reducible assumption) | assumption); have q119 : x3_1 < (l0.length : Int) := of_decide_eq_true (by first | (with_reducible assumption) | assumption); obtain ⟨ad119, A119_5, c119_5, e119, hx119_0, hx119_1, hx119_2, hx119_3, hx119_4, hx119_5, hx119_6, hx119_7, hx119_8, hl119_5, hi119_5⟩ := at_T40 HR0.out x3_1 p119 q119; obtain rfl : ad117 = ad119 := (by injection e119); replace hx119_0 := hx_ HB hx119_0; replace hx119_1 := hx_ HB hx119_1; replace hx119_2 := hx_ HB hx119_2; replace hx119_3 := hx_ HB hx119_3; replace hx119_4 := hx_ HB hx119_4; replace hx119_5 := hx_ HB hx119_5; replace hx119_6 := hx_ HB hx119_6; replace hx119_7 := hx_ HB hx119_7; replace hx119_8 := hx_ HB hx119_8; have HR119_5 := Aside0.mk hi119_5; have HC119_5 := Aside0.mk hl119_5; clear hi119_5 hl119_5; replace p119 := eq_true p119; replace q119 := eq_true q119) | (go_at_call 91; (with_reducible refine (spec_l1In.calls ((rd_T40 l0 x3_1).f1) 0 2000 false _ A6.out).mono ?_); rintro e w' ⟨rfl, ⟨nd, rfl⟩⟩))
       go_ret
       exact ⟨RT, PB⟩
     ·replace c5 := Bool.eq_false_iff.mpr c5
      subst c5
      have H1 : (some false) = some r := by rw [if_neg (show ¬ (false = true) by decide)] at H; exact H
      clear H
      have H := H1
      clear H1
      obtain rfl := Option.some.inj H
      have p117 : 0 ≤ (x3_1 : Int) := of_decide_eq_true (by first | (with_reducible assumption) | assumption)
      have q117 : x3_1 < (l0.length : Int) := of_decide_eq_true (by first | (with_reducible assumption) | assumption)
      obtain ⟨ad117, A117_5, c117_5, e117, hx117_0, hx117_1, hx117_2, hx117_3, hx117_4, hx117_5, hx117_6, hx117_7, hx117_8, hl117_5, hi117_5⟩ := at_T40 HR0.out x3_1 p117 q117
      cases e117
      replace hx117_0 := hx_ HB hx117_0
      replace hx117_1 := hx_ HB hx117_1
      replace hx117_2 := hx_ HB hx117_2
      replace hx117_3 := hx_ HB hx117_3
      replace hx117_4 := hx_ HB hx117_4
      replace hx117_5 := hx_ HB hx117_5
      replace hx117_6 := hx_ HB hx117_6
      replace hx117_7 := hx_ HB hx117_7
      replace hx117_8 := hx_ HB hx117_8
      have HR117_5 := Aside0.mk hi117_5
      have HC117_5 := Aside0.mk hl117_5
      clear hi117_5 hl117_5
      replace p117 := eq_true p117
      replace q117 := eq_true q117
      go_wp2_with (first | ((with_reducible refine gate_callee (f := 108) rfl ?_); refine goesL_ (some 15) rfl rfl Try.func108 KR rfl #[.agg #[.int .i64 ((rd_T40 l0 x3_1).f0.f0), .int .i64 ((rd_T40 l0 x3_1).f0.f1), .int .i64 ((rd_T40 l0 x3_1).f0.f2)]] rfl AR ?_; (with_reducible refine (spec_IsAddress.calls ((rd_T40 l0 x3_1).f0.f0) ((rd_T40 l0 x3_1).f0.f1) ((rd_T40 l0 x3_1).f0.f2) false _ A4.out).mono ?_); rintro e w15 ⟨rfl, hb⟩; refine ⟨_, rfl, ?_⟩; replace HB := bs HB hb; (try clear hb); (try clear hb2); (try clear hk); (try clear hi)))
      go_ret
      exact ⟨RT, PB⟩
    ·rw [if_neg c3] at H
     exact absurd H (by simp)
   ·rw [if_neg c2] at H
    have c2b0 : decide (x3_1 < (l0.length : Int)) = false := decide_eq_false c2
    clear c2
    obtain rfl := Option.some.inj H
    go_wp2
    go_ret
    exact ⟨RT, PB⟩

/-! ### spec_WithoutQuery: function 109 -/
def spec_WithoutQuery.f (a0_0 : Int) (a0_1 : Int) (a0_2 : Int) : Option (Int × Int × Int) := some (a0_0, a0_1, 0)
set_option maxHeartbeats 8000000 in
set_option maxRecDepth 100000 in
theorem spec_WithoutQuery.calls (a0_0 : Int) (a0_1 : Int) (a0_2 : Int) (r1 : Int) (r2 : Int) (r3 : Int) (w : World) (h : spec_WithoutQuery.f a0_0 a0_1 a0_2 = some (r1, r2, r3)) :
  Calls Try.prog 109 #[.agg #[.int .i64 a0_0, .int .i64 a0_1, .int .i64 a0_2]] w fun e w' => e = .returned (.agg #[.int .i64 r1, .int .i64 r2, .int .i64 r3]) ∧ Below w.heap.size w w' := by
 have hu26 := Try.underlying26
 have HB := ak (Below.refl w.heap.size w)
 have H : (some (a0_0, a0_1, 0)) = some (r1, r2, r3) := h
 clear h
 simp only [Option.some.injEq, Prod.mk.injEq] at H
 obtain ⟨rfl, rfl, rfl⟩ := H
 go_enter Try.func109, Try.ntmps109
 go_wp2_with (first | ((with_reducible refine gate_dst (N := 1) rfl ?_); refine bx_ (N := 1) #[.int .i64 a0_0, .int .i64 a0_1, .int .i64 a0_2] 26 ?_; intro gb123 hg w2 hbox hb; have BK123 := ak hbox; have GW123 := gy hg HB; have GE123 := gy hg HB; replace HB := bs HB hb; clear hb hbox hg) | ((with_reducible refine gate_dst (N := 2) rfl ?_); refine bx_ (N := 2) #[.int .i64 0, .int .i64 0, .int .i64 0] 26 ?_; intro gb124 hg w3 hbox hb; have BK124 := ak hbox; have GW124 := gy hg HB; have GE124 := gy hg HB; replace HB := bs HB hb; have NB123_124 := gm hg BK123; have NB124_123 := gn hg BK123; replace BK123 := kf BK123 hb; clear hb hbox hg; have hnb4 := NB123_124.out; have hnc4 := NB124_123.out; obtain ⟨hcz5_0, hcz5_1, hcz5_2, hfz5_0, hfz5_1, hfz5_2⟩ := bc3 BK123; obtain ⟨hcz6_0, hcz6_1, hcz6_2, hfz6_0, hfz6_1, hfz6_2⟩ := bc3 BK124))
 refine bodyPost_ret (results_cell_row rfl _ _ gb124 26 #[.int .i64 a0_0, .int .i64 a0_1, .int .i64 0] (0, 0) _ rfl (PX BK124) Try.underlying26 rfl KR) rfl ?_
 exact ⟨RT, PB⟩

/-! ### spec_l19Kind: function 110 -/
def spec_l19Kind.f (k : Nat) (a0_0 : Int) (a0_1 : Int) (a0_2 : Int) (a0_3 : Int) (a0_4 : Int) (l0_5 : List Int) (a0_6 : Int) (a0_7 : Int) (a0_8 : Int) : Option (Bool) := (spec_IsResource.f k a0_4 l0_5 a0_6 a0_7 a0_8).bind fun t126 => (if t126 = true then (some (decide (a0_4 ≤ 2))) else (some false))
set_option maxHeartbeats 8000000 in
set_option maxRecDepth 100000 in
theorem spec_l19Kind.calls (k : Nat) (a0_0 : Int) (a0_1 : Int) (a0_2 : Int) (a0_3 : Int) (a0_4 : Int) (A0_5 : Option Addr) (c0_5 : Nat) (l0_5 : List Int) (a0_6 : Int) (a0_7 : Int) (a0_8 : Int) (r : Bool) (w : World) (hr0_5 : Kd.C (Kd.int .i64) w A0_5 l0_5.length l0_5) (hc0_5 : l0_5.length ≤ c0_5) (h : spec_l19Kind.f k a0_0 a0_1 a0_2 a0_3 a0_4 l0_5 a0_6 a0_7 a0_8 = some r) :
  Calls Try.prog 110 #[.agg #[.int .i64 a0_0, .int .i64 a0_1, .int .i64 a0_2, .int .i64 a0_3, .int .i64 a0_4, .slice A0_5 l0_5.length c0_5, .int .i64 a0_6, .int .i64 a0_7, .int .i64 a0_8]] w fun e w' => e = .returned (.bool r) ∧ Below w.heap.size w w' := by
 have hu40 := Try.underlying40
 have hu38 := Try.underlying38
 have HR0_5 := Aside0.mk hr0_5
 have HC0_5 := Aside0.mk hc0_5
 clear hr0_5 hc0_5
 have HB := ak (Below.refl w.heap.size w)
 have H : ((spec_IsResource.f k a0_4 l0_5 a0_6 a0_7 a0_8).bind fun t126 => (if t126 = true then (some (decide (a0_4 ≤ 2))) else (some false))) = some r := h
 clear h
 replace H := Option.bind_eq_some_iff.mp H
 obtain ⟨t126, A20, H⟩ := H
 replace H : (if t126 = true then (some (decide (a0_4 ≤ 2))) else (some false)) = some r := H
 have A2 := Aside0.mk A20
 clear A20
 by_cases c3 : t126 = true
 ·subst c3
  have H1 : (some (decide (a0_4 ≤ 2))) = some r := by rw [if_pos rfl] at H; exact H
  clear H
  have H := H1
  clear H1
  obtain rfl := Option.some.inj H
  go_enter Try.func110, Try.ntmps110
  go_wp2_with (first | ((with_reducible refine gate_dst (N := 1) rfl ?_); refine bx_ (N := 1) #[.int .i64 a0_0, .int .i64 a0_1, .int .i64 a0_2, .int .i64 a0_3, .int .i64 a0_4, .slice A0_5 l0_5.length c0_5, .int .i64 a0_6, .int .i64 a0_7, .int .i64 a0_8] 40 ?_; intro gb125 hg w4 hbox hb; have BK125 := ak hbox; have GW125 := gy hg HB; have GE125 := gy hg HB; replace HB := bs HB hb; clear hb hbox hg; obtain ⟨hcz5_0, hcz5_1, hcz5_2, _, _, _, _, _, _, hfz5_0, hfz5_1, hfz5_2, _, _, _, _, _, _⟩ := bc9 BK125) | ((with_reducible refine gate_callee (f := 122) rfl ?_); refine goesL_ (some 5) rfl rfl Try.func122 KR rfl #[.agg #[.int .i64 a0_4, .slice A0_5 l0_5.length c0_5, .int .i64 a0_6, .int .i64 a0_7, .int .i64 a0_8]] rfl AR ?_; (with_reducible refine (spec_IsResource.calls k a0_4 _ _ l0_5 a0_6 a0_7 a0_8 true _ ?side1 ?side2 A2.out).mono ?_); (case side1 => exact CR (Kd.C_below HR0_5.out HB.out)); (case side2 => exact HC0_5.out); rintro e w6 ⟨rfl, hb⟩; refine ⟨_, rfl, ?_⟩; replace BK125 := kf BK125 hb; replace HB := bs HB hb; (try clear hb); (try clear hb2); (try clear hk); (try clear hi); obtain ⟨_, _, _, _, _, _, _, _, _, _, _, _, _, _, _, _, _, _⟩ := bc9 BK125))
  go_ret
  exact ⟨RT, PB⟩
 ·replace c3 := Bool.eq_false_iff.mpr c3
  subst c3
  have H1 : (some false) = some r := by rw [if_neg (show ¬ (false = true) by decide)] at H; exact H
  clear H
  have H := H1
  clear H1
  obtain rfl := Option.some.inj H
  go_enter Try.func110, Try.ntmps110
  go_wp2_with (first | ((with_reducible refine gate_dst (N := 1) rfl ?_); refine bx_ (N := 1) #[.int .i64 a0_0, .int .i64 a0_1, .int .i64 a0_2, .int .i64 a0_3, .int .i64 a0_4, .slice A0_5 l0_5.length c0_5, .int .i64 a0_6, .int .i64 a0_7, .int .i64 a0_8] 40 ?_; intro gb125 hg w8 hbox hb; have BK125 := ak hbox; have GW125 := gy hg HB; have GE125 := gy hg HB; replace HB := bs HB hb; clear hb hbox hg; obtain ⟨hcz9_0, hcz9_1, hcz9_2, hcz9_3, hcz9_4, _, _, _, _, hfz9_0, hfz9_1, hfz9_2, hfz9_3, hfz9_4, _, _, _, _⟩ := bc9 BK125) | ((with_reducible refine gate_callee (f := 122) rfl ?_); refine goesL_ (some 5) rfl rfl Try.func122 KR rfl #[.agg #[.int .i64 a0_4, .slice A0_5 l0_5.length c0_5, .int .i64 a0_6, .int .i64 a0_7, .int .i64 a0_8]] rfl AR ?_; (with_reducible refine (spec_IsResource.calls k a0_4 _ _ l0_5 a0_6 a0_7 a0_8 false _ ?side1 ?side2 A2.out).mono ?_); (case side1 => exact CR (Kd.C_below HR0_5.out HB.out)); (case side2 => exact HC0_5.out); rintro e w10 ⟨rfl, hb⟩; refine ⟨_, rfl, ?_⟩; replace BK125 := kf BK125 hb; replace HB := bs HB hb; (try clear hb); (try clear hb2); (try clear hk); (try clear hi)))
  go_ret
  exact ⟨RT, PB⟩

/-! ### spec_Min: function 100 -/
def spec_Min.f (a0 : Int) (a1 : Int) : Option (Int) := if a1 < a0 then (some a1) else (some a0)
set_option maxHeartbeats 8000000 in
set_option maxRecDepth 100000 in
theorem spec_Min.calls (a0 : Int) (a1 : Int) (r : Int) (w : World) (h : spec_Min.f a0 a1 = some r) :
  Calls Try.prog 100 #[.int .i64 a0, .int .i64 a1] w fun e w' => e = .returned (.int .i64 r) ∧ Drawn0 w w' := by
 have H : (if a1 < a0 then (some a1) else (some a0)) = some r := h
 clear h
 by_cases c3 : a1 < a0
 ·rw [if_pos c3] at H
  have c3b0 : decide (a1 < a0) = true := decide_eq_true c3
  clear c3
  obtain rfl := Option.some.inj H
  go_enter Try.func100, Try.ntmps100
  go_wp2
  go_ret
  exact ⟨by first | rfl | (simp; done) | (simp [*]; done), by repeat (first | exact Drawn0.refl _ | apply Drawn0.step)⟩
 ·rw [if_neg c3] at H
  have c3b0 : decide (a1 < a0) = false := decide_eq_false c3
  clear c3
  obtain rfl := Option.some.inj H
  go_enter Try.func100, Try.ntmps100
  go_wp2
  go_ret
  exact ⟨by first | rfl | (simp; done) | (simp [*]; done), by repeat (first | exact Drawn0.refl _ | apply Drawn0.step)⟩

/-! ### spec_ValueOfResource: function 111 -/
mutual
def spec_ValueOfResource.j0 : Nat → Bool → Int → List Int → Int → Int → Int → Option (Int)
  | 0, _, _, _, _, _, _ => none
  | k + 1, x12, x128000, x128001, x128002, x128003, x128004 => if x12 = true then (some 0) else (spec_ValueOfResource.l0 k 0 0 x128000 x128001 x128002 x128003 x128004)
def spec_ValueOfResource.l0 : Nat → Int → Int → Int → List Int → Int → Int → Int → Option (Int)
  | 0, _, _, _, _, _, _, _ => none
  | k + 1, x3, x4, x128000, x128001, x128002, x128003, x128004 => if x4 < (x128001.length : Int) then (if 0 ≤ x4 then (spec_ValueOfResource.l0 k (Int.tmod (wrap64 (x3 + (rd x128001 x4))) 1000) (wrap64 (x4 + 1)) x128000 x128001 x128002 x128003 x128004) else (none)) else ((spec_Min.f 999 (wrap64 (x3 + 1))).bind fun t130 => (some t130))
end
def spec_ValueOfResource.f (k : Nat) (a0_0 : Int) (l0_1 : List Int) (a0_2 : Int) (a0_3 : Int) (a0_4 : Int) : Option (Int) := (spec_IsResource.f k a0_0 l0_1 a0_2 a0_3 a0_4).bind fun t128 => (if t128 = true then (spec_ValueOfResource.j0 k (decide (a0_0 > 2)) a0_0 l0_1 a0_2 a0_3 a0_4) else (spec_ValueOfResource.j0 k true a0_0 l0_1 a0_2 a0_3 a0_4))
set_option maxHeartbeats 8000000 in
set_option maxRecDepth 100000 in
theorem spec_ValueOfResource.calls (k : Nat) (a0_0 : Int) (A0_1 : Option Addr) (c0_1 : Nat) (l0_1 : List Int) (a0_2 : Int) (a0_3 : Int) (a0_4 : Int) (r : Int) (w : World) (hr0_1 : Kd.C (Kd.int .i64) w A0_1 l0_1.length l0_1) (hc0_1 : l0_1.length ≤ c0_1) (h : spec_ValueOfResource.f k a0_0 l0_1 a0_2 a0_3 a0_4 = some r) :
  Calls Try.prog 111 #[.agg #[.int .i64 a0_0, .slice A0_1 l0_1.length c0_1, .int .i64 a0_2, .int .i64 a0_3, .int .i64 a0_4]] w fun e w' => e = .returned (.int .i64 r) ∧ Below w.heap.size w w' := by
 have hu38 := Try.underlying38
 have HR0_1 := Aside0.mk hr0_1
 have HC0_1 := Aside0.mk hc0_1
 clear hr0_1 hc0_1
 have HB := ak (Below.refl w.heap.size w)
 have H : ((spec_IsResource.f k a0_0 l0_1 a0_2 a0_3 a0_4).bind fun t128 => (if t128 = true then (spec_ValueOfResource.j0 k (decide (a0_0 > 2)) a0_0 l0_1 a0_2 a0_3 a0_4) else (spec_ValueOfResource.j0 k true a0_0 l0_1 a0_2 a0_3 a0_4))) = some r := h
 clear h
 have HC2 := Aside0.mk H
 clear H
 go_enter Try.func111, Try.ntmps111
 go_upto_region 1 with (first | ((with_reducible refine gate_dst (N := 1) rfl ?_); refine bx_ (N := 1) #[.int .i64 a0_0, .slice A0_1 l0_1.length c0_1, .int .i64 a0_2, .int .i64 a0_3, .int .i64 a0_4] 38 ?_; intro gb127 hg w3 hbox hb; have BK127 := ak hbox; have GW127 := gy hg HB; have GE127 := gy hg HB; replace HB := bs HB hb; clear hb hbox hg))
 (try simp only [Act.put, List.setIfInBounds_toArray, List.set_cons_zero, List.set_cons_succ])
 go_cut [12] (fun v12 wc => ∃ (kq : Nat) (x12_1 : Bool), v12 = .bool x12_1 ∧ Aside0 (spec_ValueOfResource.j0 kq x12_1 a0_0 l0_1 a0_2 a0_3 a0_4 = some r) ∧ Aside0 (kq ≤ k) ∧ Aside0 (wc.heap[gb127]? = some (.cells #[.int .i64 a0_0, (.slice A0_1 l0_1.length c0_1), .int .i64 a0_2, .int .i64 a0_3, .int .i64 a0_4] 38 (0, 0))) ∧ Aside0 (Below w.heap.size w wc))
 case first =>
  have H := HC2.out
  clear HC2
  replace H := Option.bind_eq_some_iff.mp H
  obtain ⟨t128, A40, H⟩ := H
  replace H : (if t128 = true then (spec_ValueOfResource.j0 k (decide (a0_0 > 2)) a0_0 l0_1 a0_2 a0_3 a0_4) else (spec_ValueOfResource.j0 k true a0_0 l0_1 a0_2 a0_3 a0_4)) = some r := H
  have A4 := Aside0.mk A40
  clear A40
  by_cases c5 : t128 = true
  ·subst c5
   have H1 : (spec_ValueOfResource.j0 k (decide (a0_0 > 2)) a0_0 l0_1 a0_2 a0_3 a0_4) = some r := by rw [if_pos rfl] at H; exact H
   clear H
   have H := H1
   clear H1
   have H' := Aside0.mk H
   clear H
   obtain ⟨hcz6_0, hcz6_1, hcz6_2, hcz6_3, hcz6_4, hfz6_0, hfz6_1, hfz6_2, hfz6_3, hfz6_4⟩ := bc5 BK127
   go_wp2_with (first | ((with_reducible refine gate_callee (f := 122) rfl ?_); refine goesL_ (some 6) rfl rfl Try.func122 KR rfl #[.agg #[.int .i64 a0_0, .slice A0_1 l0_1.length c0_1, .int .i64 a0_2, .int .i64 a0_3, .int .i64 a0_4]] rfl AR ?_; (with_reducible refine (spec_IsResource.calls k a0_0 _ _ l0_1 a0_2 a0_3 a0_4 true _ ?side1 ?side2 A4.out).mono ?_); (case side1 => exact CR (Kd.C_below HR0_1.out HB.out)); (case side2 => exact HC0_1.out); rintro e w7 ⟨rfl, hb⟩; refine ⟨_, rfl, ?_⟩; replace BK127 := kf BK127 hb; replace HB := bs HB hb; (try clear hb); (try clear hb2); (try clear hk); (try clear hi); obtain ⟨hcz8_0, hcz8_1, hcz8_2, hcz8_3, hcz8_4, hfz8_0, hfz8_1, hfz8_2, hfz8_3, hfz8_4⟩ := bc5 BK127))
   go_meet
   case rel => exact ⟨_, (decide (a0_0 > 2)), (by first | rfl | (simp; done) | (simp [*]; done)), H', ⟨by first | omega | exact Nat.le_refl _⟩, ⟨PK BK127⟩, ⟨PB⟩⟩
  ·replace c5 := Bool.eq_false_iff.mpr c5
   subst c5
   have H1 : (spec_ValueOfResource.j0 k true a0_0 l0_1 a0_2 a0_3 a0_4) = some r := by rw [if_neg (show ¬ (false = true) by decide)] at H; exact H
   clear H
   have H := H1
   clear H1
   have H' := Aside0.mk H
   clear H
   obtain ⟨hcz9_0, hcz9_1, hcz9_2, hcz9_3, hcz9_4, hfz9_0, hfz9_1, hfz9_2, hfz9_3, hfz9_4⟩ := bc5 BK127
   go_wp2_with (first | ((with_reducible refine gate_callee (f := 122) rfl ?_); refine goesL_ (some 6) rfl rfl Try.func122 KR rfl #[.agg #[.int .i64 a0_0, .slice A0_1 l0_1.length c0_1, .int .i64 a0_2, .int .i64 a0_3, .int .i64 a0_4]] rfl AR ?_; (with_reducible refine (spec_IsResource.calls k a0_0 _ _ l0_1 a0_2 a0_3 a0_4 false _ ?side1 ?side2 A4.out).mono ?_); (case side1 => exact CR (Kd.C_below HR0_1.out HB.out)); (case side2 => exact HC0_1.out); rintro e w10 ⟨rfl, hb⟩; refine ⟨_, rfl, ?_⟩; replace BK127 := kf BK127 hb; replace HB := bs HB hb; (try clear hb); (try clear hb2); (try clear hk); (try clear hi)))
   go_meet
   case rel => exact ⟨_, (true), (by first | rfl | (simp; done) | (simp [*]; done)), H', ⟨by first | omega | exact Nat.le_refl _⟩, ⟨PK BK127⟩, ⟨PB⟩⟩
 case rest =>
  clear HC2
  (try clear c1); (try clear p2); (try clear c5); (try clear hcz6_0); (try clear hcz6_1); (try clear hcz6_2); (try clear hcz6_3); (try clear hcz6_4); (try clear hcz8_0); (try clear hcz8_1); (try clear hcz8_2); (try clear hcz8_3); (try clear hcz8_4); (try clear hcz9_0); (try clear hcz9_1); (try clear hcz9_2); (try clear hcz9_3); (try clear hcz9_4); (try clear hfz6_0); (try clear hfz6_1); (try clear hfz6_2); (try clear hfz6_3); (try clear hfz6_4); (try clear hfz8_0); (try clear hfz8_1); (try clear hfz8_2); (try clear hfz8_3); (try clear hfz8_4); (try clear hfz9_0); (try clear hfz9_1); (try clear hfz9_2); (try clear hfz9_3); (try clear hfz9_4)
  obtain ⟨kq, x12_1, rfl, HA, HJ1, BK127, HB⟩ := hcut
  cases kq with
  | zero => exact absurd HA.out (by simp [spec_ValueOfResource.j0])
  | succ kj1 =>
   have H := HA.out
   clear HA
   simp only [spec_ValueOfResource.j0] at H
   by_cases c11 : x12_1 = true
   ·subst c11
    have H1 : (some 0) = some r := by rw [if_pos rfl] at H; exact H
    clear H
    have H := H1
    clear H1
    obtain rfl := Option.some.inj H
    go_wp2
    go_ret
    exact ⟨RT, PB⟩
   ·replace c11 := Bool.eq_false_iff.mpr c11
    subst c11
    have H1 : (spec_ValueOfResource.l0 kj1 0 0 a0_0 l0_1 a0_2 a0_3 a0_4) = some r := by rw [if_neg (show ¬ (false = true) by decide)] at H; exact H
    clear H
    have H := H1
    clear H1
    have H' := Aside0.mk H
    clear H
    go_wp2
    go_loopg [3, 4] kj1 (fun kq v3 v4 w' => ∃ (x3_2 : Int) (x4_2 : Int), v3 = .int .i64 x3_2 ∧ v4 = .int .i64 x4_2 ∧ Aside0 (spec_ValueOfResource.l0 kq x3_2 x4_2 a0_0 l0_1 a0_2 a0_3 a0_4 = some r) ∧ Aside0 (kq ≤ kj1) ∧ Aside0 (w'.heap[gb127]? = some (.cells #[.int .i64 a0_0, (.slice A0_1 l0_1.length c0_1), .int .i64 a0_2, .int .i64 a0_3, .int .i64 a0_4] 38 (0, 0))) ∧ Aside0 (Below w.heap.size w w'))
    case atStart => exact ⟨(0), (0), (by first | rfl | (simp; done) | (simp [*]; done)), (by first | rfl | (simp; done) | (simp [*]; done)), H', ⟨Nat.le_refl _⟩, ⟨PK BK127⟩, ⟨PB⟩⟩
    case round =>
     clear H'
     (try clear c1); (try clear p2); (try clear c5); (try clear c11); (try clear hcz6_0); (try clear hcz6_1); (try clear hcz6_2); (try clear hcz6_3); (try clear hcz6_4); (try clear hcz8_0); (try clear hcz8_1); (try clear hcz8_2); (try clear hcz8_3); (try clear hcz8_4); (try clear hcz9_0); (try clear hcz9_1); (try clear hcz9_2); (try clear hcz9_3); (try clear hcz9_4); (try clear hfz6_0); (try clear hfz6_1); (try clear hfz6_2); (try clear hfz6_3); (try clear hfz6_4); (try clear hfz8_0); (try clear hfz8_1); (try clear hfz8_2); (try clear hfz8_3); (try clear hfz8_4); (try clear hfz9_0); (try clear hfz9_1); (try clear hfz9_2); (try clear hfz9_3); (try clear hfz9_4); (try clear p2)
     obtain ⟨x3_2, x4_2, rfl, rfl, HA, HK2, BK127, HB⟩ := hrel
     cases gk with
     | zero => exact absurd HA.out (by simp [spec_ValueOfResource.l0])
     | succ k2 =>
      have H := HA.out
      clear HA
      simp only [spec_ValueOfResource.l0] at H
      by_cases c12 : x4_2 < (l0_1.length : Int)
      ·rw [if_pos c12] at H
       have c12b0 : decide (x4_2 < (l0_1.length : Int)) = true := decide_eq_true c12
       clear c12
       by_cases c13 : 0 ≤ x4_2
       ·rw [if_pos c13] at H
        have c13b0 : decide (0 ≤ x4_2) = true := decide_eq_true c13
        clear c13
        have H' := Aside0.mk H
        clear H
        obtain ⟨_, _, _, _, _, _, _, _, _, _⟩ := bc5 BK127
        have p129 : 0 ≤ (x4_2 : Int) := of_decide_eq_true (by first | (with_reducible assumption) | assumption)
        have q129 : x4_2 < (l0_1.length : Int) := of_decide_eq_true (by first | (with_reducible assumption) | assumption)
        obtain ⟨ad129, e129, hx129_0⟩ := Kd.at_int HR0_1.out x4_2 p129 q129
        cases e129
        replace hx129_0 := hx_ HB hx129_0
        replace p129 := eq_true p129
        replace q129 := eq_true q129
        go_wp2
        go_roundg k2
        case measure => have := HJ1.out; have := HK2.out; omega
        case rel => exact ⟨(Int.tmod (wrap64 (x3_2 + (rd l0_1 x4_2))) 1000), (wrap64 (x4_2 + 1)), (by first | rfl | (simp; done) | (simp [*]; done)), (by first | rfl | (simp; done) | (simp [*]; done)), H', ⟨by have := HJ1.out; have := HK2.out; omega⟩, ⟨PK BK127⟩, ⟨PB⟩⟩
       ·rw [if_neg c13] at H
        exact absurd H (by simp)
      ·rw [if_neg c12] at H
       have c12b0 : decide (x4_2 < (l0_1.length : Int)) = false := decide_eq_false c12
       clear c12
       replace H := Option.bind_eq_some_iff.mp H
       obtain ⟨t130, A150, H⟩ := H
       replace H : (some t130) = some r := H
       have A15 := Aside0.mk A150
       clear A150
       obtain rfl := Option.some.inj H
       obtain ⟨hcz16_0, hcz16_1, hcz16_2, hcz16_3, hcz16_4, hfz16_0, hfz16_1, hfz16_2, hfz16_3, hfz16_4⟩ := bc5 BK127
       go_wp2_with (first | ((with_reducible refine gate_callee (f := 100) rfl ?_); refine goesL_ (some 30) rfl rfl Try.func100 KR rfl #[.int .i64 999, .int .i64 (wrap64 (x3_2 + 1))] rfl AR ?_; (with_reducible refine (spec_Min.calls 999 (wrap64 (x3_2 + 1)) t130 _ A15.out).mono ?_); rintro e w' ⟨rfl, ⟨nd, rfl⟩⟩; refine ⟨_, rfl, ?_⟩))
       go_ret
       exact ⟨RT, PB⟩

/-! ### spec_FitsForm: function 113 -/
def spec_FitsForm.f (k : Nat) (a0_0 : Int) (a0_1 : Int) (a0_2 : Int) (a0_3 : Bool) (a1_0 : Int) (a1_1 : Int) (a1_2 : Int) (a1_3 : Int) (a1_4 : Int) (l1_5 : List Int) (a1_6 : Int) (a1_7 : Int) (a1_8 : Int) : Option (Bool) := (spec_l1In.f a0_0 0 999).bind fun t133 => (if t133 = true then ((spec_l1In.f a0_1 0 999).bind fun t134 => (if t134 = true then ((spec_l19Kind.f k a1_0 a1_1 a1_2 a1_3 a1_4 l1_5 a1_6 a1_7 a1_8).bind fun t135 => (if t135 = true then ((spec_l1In.f a1_2 0 99).bind fun t136 => (if t136 = true then ((spec_ValueOfResource.f k a1_4 l1_5 a1_6 a1_7 a1_8).bind fun t137 => (some (t137 == (Int.tmod (wrap64 (a0_0 + (wrap64 (a0_1 * a1_2)))) 1000)))) else (some false))) else (some false))) else (some false))) else (some false))
def spec_FitsForm.T3 : Bool × List (List Nat × List Nat) := (true, [([], []), ([0], [0]), ([1], [1]), ([], []), ([3], [3]), ([], []), ([5], [5]), ([], []), ([7], [7]), ([8], [8]), ([6, 9], [6, 9]), ([4, 10], [4, 10]), ([11], [11]), ([2, 12], [2, 12]), ([13, 2, 0, 1, 2, 3, 4, 5, 6, 7, 8, 9, 10, 11, 12, 13], [13])])
def spec_FitsForm.B3 : List Nat := [0, 1, 3, 0, 8, 0, 32, 0, 128, 384, 992, 2040, 4088, 8191, 16383]
theorem spec_FitsForm.tab3 : rtab .any (opsOf Try.f113 3) = spec_FitsForm.T3 := by kernel_rfl
theorem spec_FitsForm.bits3 : waitsOk spec_FitsForm.T3.2 spec_FitsForm.B3 = true := by kernel_rfl
set_option maxHeartbeats 8000000 in
set_option maxRecDepth 100000 in
theorem spec_FitsForm.calls (k : Nat) (a0_0 : Int) (a0_1 : Int) (a0_2 : Int) (a0_3 : Bool) (a1_0 : Int) (a1_1 : Int) (a1_2 : Int) (a1_3 : Int) (a1_4 : Int) (A1_5 : Option Addr) (c1_5 : Nat) (l1_5 : List Int) (a1_6 : Int) (a1_7 : Int) (a1_8 : Int) (r : Bool) (w : World) (hr1_5 : Kd.C (Kd.int .i64) w A1_5 l1_5.length l1_5) (hc1_5 : l1_5.length ≤ c1_5) (h : spec_FitsForm.f k a0_0 a0_1 a0_2 a0_3 a1_0 a1_1 a1_2 a1_3 a1_4 l1_5 a1_6 a1_7 a1_8 = some r) :
  Calls Try.prog 113 #[.agg #[.int .i64 a0_0, .int .i64 a0_1, .int .i64 a0_2, .bool a0_3], .agg #[.int .i64 a1_0, .int .i64 a1_1, .int .i64 a1_2, .int .i64 a1_3, .int .i64 a1_4, .slice A1_5 l1_5.length c1_5, .int .i64 a1_6, .int .i64 a1_7, .int .i64 a1_8]] w fun e w' => e = .returned (.bool r) ∧ Below w.heap.size w w' := by
 have hu85 := Try.underlying85
 have hu40 := Try.underlying40
 have hu38 := Try.underlying38
 have HR1_5 := Aside0.mk hr1_5
 have HC1_5 := Aside0.mk hc1_5
 clear hr1_5 hc1_5
 have HB := ak (Below.refl w.heap.size w)
 have H : ((spec_l1In.f a0_0 0 999).bind fun t133 => (if t133 = true then ((spec_l1In.f a0_1 0 999).bind fun t134 => (if t134 = true then ((spec_l19Kind.f k a1_0 a1_1 a1_2 a1_3 a1_4 l1_5 a1_6 a1_7 a1_8).bind fun t135 => (if t135 = true then ((spec_l1In.f a1_2 0 99).bind fun t136 => (if t136 = true then ((spec_ValueOfResource.f k a1_4 l1_5 a1_6 a1_7 a1_8).bind fun t137 => (some (t137 == (Int.tmod (wrap64 (a0_0 + (wrap64 (a0_1 * a1_2)))) 1000)))) else (some false))) else (some false))) else (some false))) else (some false))) = some r := h
 clear h
 replace H := Option.bind_eq_some_iff.mp H
 obtain ⟨t133, A30, H⟩ := H
 replace H : (if t133 = true then ((spec_l1In.f a0_1 0 999).bind fun t134 => (if t134 = true then ((spec_l19Kind.f k a1_0 a1_1 a1_2 a1_3 a1_4 l1_5 a1_6 a1_7 a1_8).bind fun t135 => (if t135 = true then ((spec_l1In.f a1_2 0 99).bind fun t136 => (if t136 = true then ((spec_ValueOfResource.f k a1_4 l1_5 a1_6 a1_7 a1_8).bind fun t137 => (some (t137 == (Int.tmod (wrap64 (a0_0 + (wrap64 (a0_1 * a1_2)))) 1000)))) else (some false))) else (some false))) else (some false))) else (some false)) = some r := H
 have A3 := Aside0.mk A30
 clear A30
 by_cases c4 : t133 = true
 ·subst c4
  have H1 : ((spec_l1In.f a0_1 0 999).bind fun t134 => (if t134 = true then ((spec_l19Kind.f k a1_0 a1_1 a1_2 a1_3 a1_4 l1_5 a1_6 a1_7 a1_8).bind fun t135 => (if t135 = true then ((spec_l1In.f a1_2 0 99).bind fun t136 => (if t136 = true then ((spec_ValueOfResource.f k a1_4 l1_5 a1_6 a1_7 a1_8).bind fun t137 => (some (t137 == (Int.tmod (wrap64 (a0_0 + (wrap64 (a0_1 * a1_2)))) 1000)))) else (some false))) else (some false))) else (some false))) = some r := by rw [if_pos rfl] at H; exact H
  clear H
  have H := H1
  clear H1
  replace H := Option.bind_eq_some_iff.mp H
  obtain ⟨t134, A50, H⟩ := H
  replace H : (if t134 = true then ((spec_l19Kind.f k a1_0 a1_1 a1_2 a1_3 a1_4 l1_5 a1_6 a1_7 a1_8).bind fun t135 => (if t135 = true then ((spec_l1In.f a1_2 0 99).bind fun t136 => (if t136 = true then ((spec_ValueOfResource.f k a1_4 l1_5 a1_6 a1_7 a1_8).bind fun t137 => (some (t137 == (Int.tmod (wrap64 (a0_0 + (wrap64 (a0_1 * a1_2)))) 1000)))) else (some false))) else (some false))) else (some false)) = some r := H
  have A5 := Aside0.mk A50
  clear A50
  by_cases c6 : t134 = true
  ·subst c6
   have H1 : ((spec_l19Kind.f k a1_0 a1_1 a1_2 a1_3 a1_4 l1_5 a1_6 a1_7 a1_8).bind fun t135 => (if t135 = true then ((spec_l1In.f a1_2 0 99).bind fun t136 => (if t136 = true then ((spec_ValueOfResource.f k a1_4 l1_5 a1_6 a1_7 a1_8).bind fun t137 => (some (t137 == (Int.tmod (wrap64 (a0_0 + (wrap64 (a0_1 * a1_2)))) 1000)))) else (some false))) else (some false))) = some r := by rw [if_pos rfl] at H; exact H
   clear H
   have H := H1
   clear H1
   replace H := Option.bind_eq_some_iff.mp H
   obtain ⟨t135, A70, H⟩ := H
   replace H : (if t135 = true then ((spec_l1In.f a1_2 0 99).bind fun t136 => (if t136 = true then ((spec_ValueOfResource.f k a1_4 l1_5 a1_6 a1_7 a1_8).bind fun t137 => (some (t137 == (Int.tmod (wrap64 (a0_0 + (wrap64 (a0_1 * a1_2)))) 1000)))) else (some false))) else (some false)) = some r := H
   have A7 := Aside0.mk A70
   clear A70
   by_cases c8 : t135 = true
   ·subst c8
    have H1 : ((spec_l1In.f a1_2 0 99).bind fun t136 => (if t136 = true then ((spec_ValueOfResource.f k a1_4 l1_5 a1_6 a1_7 a1_8).bind fun t137 => (some (t137 == (Int.tmod (wrap64 (a0_0 + (wrap64 (a0_1 * a1_2)))) 1000)))) else (some false))) = some r := by rw [if_pos rfl] at H; exact H
    clear H
    have H := H1
    clear H1
    replace H := Option.bind_eq_some_iff.mp H
    obtain ⟨t136, A90, H⟩ := H
    replace H : (if t136 = true then ((spec_ValueOfResource.f k a1_4 l1_5 a1_6 a1_7 a1_8).bind fun t137 => (some (t137 == (Int.tmod (wrap64 (a0_0 + (wrap64 (a0_1 * a1_2)))) 1000)))) else (some false)) = some r := H
    have A9 := Aside0.mk A90
    clear A90
    by_cases c10 : t136 = true
    ·subst c10
     have H1 : ((spec_ValueOfResource.f k a1_4 l1_5 a1_6 a1_7 a1_8).bind fun t137 => (some (t137 == (Int.tmod (wrap64 (a0_0 + (wrap64 (a0_1 * a1_2)))) 1000)))) = some r := by rw [if_pos rfl] at H; exact H
     clear H
     have H := H1
     clear H1
     replace H := Option.bind_eq_some_iff.mp H
     obtain ⟨t137, A110, H⟩ := H
     replace H : (some (t137 == (Int.tmod (wrap64 (a0_0 + (wrap64 (a0_1 * a1_2)))) 1000))) = some r := H
     have A11 := Aside0.mk A110
     clear A110
     obtain rfl := Option.some.inj H
     go_enter Try.func113, Try.ntmps113
     try go_wp2_with (first | ((with_reducible refine gate_dst (N := 2) rfl ?_); refine bx_ (N := 2) #[.int .i64 a0_0, .int .i64 a0_1, .int .i64 a0_2, .bool a0_3] 85 ?_; intro gb131 hg w12 hbox hb; have BK131 := ak hbox; have GW131 := gy hg HB; have GE131 := gy hg HB; replace HB := bs HB hb; clear hb hbox hg) | ((with_reducible refine gate_dst (N := 3) rfl ?_); refine bx_ (N := 3) #[.int .i64 a1_0, .int .i64 a1_1, .int .i64 a1_2, .int .i64 a1_3, .int .i64 a1_4, .slice A1_5 l1_5.length c1_5, .int .i64 a1_6, .int .i64 a1_7, .int .i64 a1_8] 40 ?_; intro gb132 hg w13 hbox hb; have BK132 := ak hbox; have GW132 := gy hg HB; have GE132 := gy hg HB; replace HB := bs HB hb; have NB131_132 := gm hg BK131; have NB132_131 := gn hg BK131; replace BK131 := kf BK131 hb; clear hb hbox hg; have hnb14 := NB131_132.out; have hnc14 := NB132_131.out; obtain ⟨_, _, _, _, _, _, _, _⟩ := bc4 BK131) | ((with_reducible refine gate_callee (f := 91) rfl ?_); refine goesL_ (some 7) rfl rfl Try.func91 KR rfl #[.int .i64 a0_0, .int .i64 0, .int .i64 999] rfl AR ?_; (with_reducible refine (spec_l1In.calls a0_0 0 999 true _ A3.out).mono ?_); rintro e w' ⟨rfl, ⟨nd, rfl⟩⟩; refine ⟨_, rfl, ?_⟩) | (go_at_call 91; (with_reducible refine (spec_l1In.calls a0_1 0 999 true _ A5.out).mono ?_); rintro e w' ⟨rfl, ⟨nd, rfl⟩⟩; obtain ⟨hcz16_0, hcz16_1, hcz16_2, hcz16_3, hcz16_4, _, _, _, _, hfz16_0, hfz16_1, hfz16_2, hfz16_3, hfz16_4, _, _, _, _⟩ := bc9 BK132) | (go_at_call 110; (with_reducible refine (spec_l19Kind.calls k a1_0 a1_1 a1_2 a1_3 a1_4 _ _ l1_5 a1_6 a1_7 a1_8 true _ ?side1 ?side2 A7.out).mono ?_); (case side1 => repeat (first | exact (Kd.C_below HR1_5.out PB) | (with_reducible refine Kd.C_alloc ?_ _) | (with_reducible refine Kd.C_drewN ?_ _) | (with_reducible refine Kd.C_drew ?_))); (case side2 => exact HC1_5.out); rintro e w17 ⟨rfl, hb⟩; replace BK131 := kf BK131 hb; replace BK132 := kf BK132 hb; replace HB := bs HB hb; (try clear hb); (try clear hb2); (try clear hk); (try clear hi); obtain ⟨_, _, _, _, _, _, _, _, _, _, _, _, _, _, _, _, _, _⟩ := bc9 BK132) | (go_at_call 91; (with_reducible refine (spec_l1In.calls a1_2 0 99 true _ A9.out).mono ?_); rintro e w' ⟨rfl, ⟨nd, rfl⟩⟩))
     (try (rw [drewN_self w17]; generalize hq_ : World.drewN w17 _ = w17; replace BK131 : Aside0 (w17.heap[gb131]? = some (.cells #[.int .i64 a0_0, .int .i64 a0_1, .int .i64 a0_2, .bool a0_3] 85 (0, 0))) := ⟨by rw [← hq_]; exact (PK BK131)⟩; replace BK132 : Aside0 (w17.heap[gb132]? = some (.cells #[.int .i64 a1_0, .int .i64 a1_1, .int .i64 a1_2, .int .i64 a1_3, .int .i64 a1_4, .slice A1_5 l1_5.length c1_5, .int .i64 a1_6, .int .i64 a1_7, .int .i64 a1_8] 40 (0, 0))) := ⟨by rw [← hq_]; exact (PK BK132)⟩; replace HB : Aside0 (Below w.heap.size w w17) := ⟨by rw [← hq_]; exact PB⟩; clear hq_))
     replace BK131 := ak (blk_drew BK131.out)
     replace BK132 := ak (blk_drew BK132.out)
     replace HB := ak (below_drew1 HB.out)
     refine start_ (n := 15) (S := fun w' => w'.cell? ⟨gb132, 0, none⟩ = some (.int .i64 a1_0) ∧ w'.cell? ⟨gb132, 1, none⟩ = some (.int .i64 a1_1) ∧ w'.cell? ⟨gb132, 2, none⟩ = some (.int .i64 a1_2) ∧ w'.cell? ⟨gb132, 3, none⟩ = some (.int .i64 a1_3) ∧ w'.cell? ⟨gb132, 4, none⟩ = some (.int .i64 a1_4) ∧ w'.cell? ⟨gb132, 5, none⟩ = some (.slice A1_5 l1_5.length c1_5) ∧ w'.cell? ⟨gb132, 6, none⟩ = some (.int .i64 a1_6) ∧ w'.cell? ⟨gb132, 7, none⟩ = some (.int .i64 a1_7) ∧ w'.cell? ⟨gb132, 8, none⟩ = some (.int .i64 a1_8) ∧ w'.cell? ⟨gb131, 0, none⟩ = some (.int .i64 a0_0) ∧ w'.cell? ⟨gb131, 1, none⟩ = some (.int .i64 a0_1) ∧ w'.cell? ⟨gb131, 2, none⟩ = some (.int .i64 a0_2) ∧ w'.cell? ⟨gb131, 3, none⟩ = some (.bool a0_3)) (ds := []) #[false, false, false, false, false, false, false, false, false, false, false, false, false, false, false] KR rfl rfl ⟨(blk_cell BK132.out 0).trans rfl, (blk_cell BK132.out 1).trans rfl, (blk_cell BK132.out 2).trans rfl, (blk_cell BK132.out 3).trans rfl, (blk_cell BK132.out 4).trans rfl, (blk_cell BK132.out 5).trans rfl, (blk_cell BK132.out 6).trans rfl, (blk_cell BK132.out 7).trans rfl, (blk_cell BK132.out 8).trans rfl, (blk_cell BK131.out 0).trans rfl, (blk_cell BK131.out 1).trans rfl, (blk_cell BK131.out 2).trans rfl, (blk_cell BK131.out 3).trans rfl⟩ (fun hHeld => ?_); refine with_tabW spec_FitsForm.tab3 spec_FitsForm.bits3 (fun HT_ HW_ => ?_)
     generalize w17.drew = w19 at BK131 BK132 HB hHeld ⊢
     refine pu_ (i := 0) (N := some 27) #[true, false, false, false, false, false, false, false, false, false, false, false, false, false, false] HT_ ?_
     refine pu_ (i := 3) (N := some 30) #[true, false, false, true, false, false, false, false, false, false, false, false, false, false, false] HT_ ?_
     refine pu_ (i := 5) (N := some 32) #[true, false, false, true, false, true, false, false, false, false, false, false, false, false, false] HT_ ?_
     refine pu_ (i := 7) (N := some 34) #[true, false, false, true, false, true, false, true, false, false, false, false, false, false, false] HT_ ?_
     refine pu_ (i := 8) (N := some 35) #[true, false, false, true, false, true, false, true, true, false, false, false, false, false, false] HT_ ?_
     refine tk_ (i := 1) (N := some 28) #[true, true, false, true, false, true, false, true, true, false, false, false, false, false, false] rfl rfl HT_ HW_ hHeld ?_
     refine take_ (i := 4) (N := some 31) (v := ?_) (a' := ?_) #[true, true, false, true, true, true, false, true, true, false, false, false, false, false, false] rfl rfl (take_ofW HT_.out HW_.out KR) (fun _ _ _ h => h) (Or.inl ⟨by rfl, ?_⟩) hHeld ?_ ?_
     rotate_left
     ·rintro w' ⟨s0, s1, s2, s3, s4, s5, s6, s7, s8, s9, s10, s11, s12⟩
      go_simp
      with_reducible rfl
     rotate_left
     ·simp only [Act.put, List.setIfInBounds_toArray, List.set_cons_zero, List.set_cons_succ, i64_w, i32_w]
      rfl
     refine tk_ (i := 6) (N := some 33) #[true, true, false, true, true, true, true, true, true, false, false, false, false, false, false] rfl rfl HT_ HW_ hHeld ?_
     refine take_ (i := 9) (N := some 36) (v := ?_) (a' := ?_) #[true, true, false, true, true, true, true, true, true, true, false, false, false, false, false] rfl rfl (take_ofW HT_.out HW_.out KR) (fun _ _ _ h => h) (Or.inl ⟨by rfl, ?_⟩) hHeld ?_ ?_
     rotate_left
     ·rintro w' ⟨s0, s1, s2, s3, s4, s5, s6, s7, s8, s9, s10, s11, s12⟩
      go_simp
      with_reducible rfl
     rotate_left
     ·simp only [Act.put, List.setIfInBounds_toArray, List.set_cons_zero, List.set_cons_succ, i64_w, i32_w]
      rfl
     refine pu_ (i := 10) (N := some 37) #[true, true, false, true, true, true, true, true, true, true, true, false, false, false, false] HT_ ?_
     refine pu_ (i := 11) (N := some 38) #[true, true, false, true, true, true, true, true, true, true, true, true, false, false, false] HT_ ?_
     refine pu_ (i := 12) (N := some 39) #[true, true, false, true, true, true, true, true, true, true, true, true, true, false, false] HT_ ?_
     refine one_ (i := 2) (N := some 29) #[true, true, true, true, true, true, true, true, true, true, true, true, true, false, false] rfl rfl (one_of HT_.out KR) (by decide) (fun K hK => ?_)
     refine goes_ Try.func111 KR rfl #[.agg #[.int .i64 a1_4, .slice A1_5 l1_5.length c1_5, .int .i64 a1_6, .int .i64 a1_7, .int .i64 a1_8]] (by rfl) rfl rfl AR ?_
     with_reducible refine (spec_ValueOfResource.calls k a1_4 _ _ l1_5 a1_6 a1_7 a1_8 t137 _ ?side1 ?side2 A11.out).mono ?_
     (case side1 => exact CR (Kd.C_below HR1_5.out HB.out))
     (case side2 => exact HC1_5.out)
     rintro e w20 ⟨rfl, hb⟩
     refine ⟨_, rfl, ?_⟩
     replace BK131 := kf BK131 hb
     replace BK132 := kf BK132 hb
     replace HB := bs HB hb
     (try clear hb)
     (try clear hb2)
     (try clear hk)
     (try clear hi)
     refine hK.out _ _ ⟨(blk_cell BK132.out 0).trans rfl, (blk_cell BK132.out 1).trans rfl, (blk_cell BK132.out 2).trans rfl, (blk_cell BK132.out 3).trans rfl, (blk_cell BK132.out 4).trans rfl, (blk_cell BK132.out 5).trans rfl, (blk_cell BK132.out 6).trans rfl, (blk_cell BK132.out 7).trans rfl, (blk_cell BK132.out 8).trans rfl, (blk_cell BK131.out 0).trans rfl, (blk_cell BK131.out 1).trans rfl, (blk_cell BK131.out 2).trans rfl, (blk_cell BK131.out 3).trans rfl⟩ (fun hHeld => ?_)
     clear hK K
     refine norm_ (a' := ?_) ?_ ?_
     rotate_left
     ·show Act.put _ (some 29) _ = _
      simp only [Act.put, List.setIfInBounds_toArray, List.set_cons_zero, List.set_cons_succ, i64_w, i32_w]
      rfl
     refine pu_ (i := 13) (N := some 40) #[true, true, true, true, true, true, true, true, true, true, true, true, true, true, false] HT_ ?_
     refine pu_ (i := 14) (N := some 4) #[true, true, true, true, true, true, true, true, true, true, true, true, true, true, true] HT_ ?_
     refine done_ (done_of HT_.out KR) ?_
     try go_wp2
     go_ret
     exact ⟨RT, PB⟩
    ·replace c10 := Bool.eq_false_iff.mpr c10
     subst c10
     have H1 : (some false) = some r := by rw [if_neg (show ¬ (false = true) by decide)] at H; exact H
     clear H
     have H := H1
     clear H1
     obtain rfl := Option.some.inj H
     go_enter Try.func113, Try.ntmps113
     go_wp2_with (first | ((with_reducible refine gate_dst (N := 2) rfl ?_); refine bx_ (N := 2) #[.int .i64 a0_0, .int .i64 a0_1, .int .i64 a0_2, .bool a0_3] 85 ?_; intro gb131 hg w21 hbox hb; have BK131 := ak hbox; have GW131 := gy hg HB; have GE131 := gy hg HB; replace HB := bs HB hb; clear hb hbox hg) | ((with_reducible refine gate_dst (N := 3) rfl ?_); refine bx_ (N := 3) #[.int .i64 a1_0, .int .i64 a1_1, .int .i64 a1_2, .int .i64 a1_3, .int .i64 a1_4, .slice A1_5 l1_5.length c1_5, .int .i64 a1_6, .int .i64 a1_7, .int .i64 a1_8] 40 ?_; intro gb132 hg w22 hbox hb; have BK132 := ak hbox; have GW132 := gy hg HB; have GE132 := gy hg HB; replace HB := bs HB hb; have NB131_132 := gm hg BK131; have NB132_131 := gn hg BK131; replace BK131 := kf BK131 hb; clear hb hbox hg; have hnb23 := NB131_132.out; have hnc23 := NB132_131.out; obtain ⟨_, _, _, _, _, _, _, _⟩ := bc4 BK131) | ((with_reducible refine gate_callee (f := 91) rfl ?_); refine goesL_ (some 7) rfl rfl Try.func91 KR rfl #[.int .i64 a0_0, .int .i64 0, .int .i64 999] rfl AR ?_; (with_reducible refine (spec_l1In.calls a0_0 0 999 true _ A3.out).mono ?_); rintro e w' ⟨rfl, ⟨nd, rfl⟩⟩; refine ⟨_, rfl, ?_⟩) | (go_at_call 91; (with_reducible refine (spec_l1In.calls a0_1 0 999 true _ A5.out).mono ?_); rintro e w' ⟨rfl, ⟨nd, rfl⟩⟩; obtain ⟨_, _, _, _, _, _, _, _, _, _, _, _, _, _, _, _, _, _⟩ := bc9 BK132) | (go_at_call 110; (with_reducible refine (spec_l19Kind.calls k a1_0 a1_1 a1_2 a1_3 a1_4 _ _ l1_5 a1_6 a1_7 a1_8 true _ ?side1 ?side2 A7.out).mono ?_); (case side1 => repeat (first | exact (Kd.C_below HR1_5.out PB) | (with_reducible refine Kd.C_alloc ?_ _) | (with_reducible refine Kd.C_drewN ?_ _) | (with_reducible refine Kd.C_drew ?_))); (case side2 => exact HC1_5.out); rintro e w26 ⟨rfl, hb⟩; replace BK131 := kf BK131 hb; replace BK132 := kf BK132 hb; replace HB := bs HB hb; (try clear hb); (try clear hb2); (try clear hk); (try clear hi); obtain ⟨_, _, _, _, _, _, _, _, _, _, _, _, _, _, _, _, _, _⟩ := bc9 BK132) | (go_at_call 91; (with_reducible refine (spec_l1In.calls a1_2 0 99 false _ A9.out).mono ?_); rintro e w' ⟨rfl, ⟨nd, rfl⟩⟩))
     go_ret
     exact ⟨RT, PB⟩
   ·replace c8 := Bool.eq_false_iff.mpr c8
    subst c8
    have H1 : (some false) = some r := by rw [if_neg (show ¬ (false = true) by decide)] at H; exact H
    clear H
    have H := H1
    clear H1
    obtain rfl := Option.some.inj H
    go_enter Try.func113, Try.ntmps113
    go_wp2_with (first | ((with_reducible refine gate_dst (N := 2) rfl ?_); refine bx_ (N := 2) #[.int .i64 a0_0, .int .i64 a0_1, .int .i64 a0_2, .bool a0_3] 85 ?_; intro gb131 hg w28 hbox hb; have BK131 := ak hbox; have GW131 := gy hg HB; have GE131 := gy hg HB; replace HB := bs HB hb; clear hb hbox hg) | ((with_reducible refine gate_dst (N := 3) rfl ?_); refine bx_ (N := 3) #[.int .i64 a1_0, .int .i64 a1_1, .int .i64 a1_2, .int .i64 a1_3, .int .i64 a1_4, .slice A1_5 l1_5.length c1_5, .int .i64 a1_6, .int .i64 a1_7, .int .i64 a1_8] 40 ?_; intro gb132 hg w29 hbox hb; have BK132 := ak hbox; have GW132 := gy hg HB; have GE132 := gy hg HB; replace HB := bs HB hb; have NB131_132 := gm hg BK131; have NB132_131 := gn hg BK131; replace BK131 := kf BK131 hb; clear hb hbox hg; have hnb30 := NB131_132.out; have hnc30 := NB132_131.out; obtain ⟨_, _, _, _, _, _, _, _⟩ := bc4 BK131) | ((with_reducible refine gate_callee (f := 91) rfl ?_); refine goesL_ (some 7) rfl rfl Try.func91 KR rfl #[.int .i64 a0_0, .int .i64 0, .int .i64 999] rfl AR ?_; (with_reducible refine (spec_l1In.calls a0_0 0 999 true _ A3.out).mono ?_); rintro e w' ⟨rfl, ⟨nd, rfl⟩⟩; refine ⟨_, rfl, ?_⟩) | (go_at_call 91; (with_reducible refine (spec_l1In.calls a0_1 0 999 true _ A5.out).mono ?_); rintro e w' ⟨rfl, ⟨nd, rfl⟩⟩; obtain ⟨_, _, _, _, _, _, _, _, _, _, _, _, _, _, _, _, _, _⟩ := bc9 BK132) | (go_at_call 110; (with_reducible refine (spec_l19Kind.calls k a1_0 a1_1 a1_2 a1_3 a1_4 _ _ l1_5 a1_6 a1_7 a1_8 false _ ?side1 ?side2 A7.out).mono ?_); (case side1 => repeat (first | exact (Kd.C_below HR1_5.out PB) | (with_reducible refine Kd.C_alloc ?_ _) | (with_reducible refine Kd.C_drewN ?_ _) | (with_reducible refine Kd.C_drew ?_))); (case side2 => exact HC1_5.out); rintro e w33 ⟨rfl, hb⟩; replace BK131 := kf BK131 hb; replace BK132 := kf BK132 hb; replace HB := bs HB hb; (try clear hb); (try clear hb2); (try clear hk); (try clear hi)))
    go_ret
    exact ⟨RT, PB⟩
  ·replace c6 := Bool.eq_false_iff.mpr c6
   subst c6
   have H1 : (some false) = some r := by rw [if_neg (show ¬ (false = true) by decide)] at H; exact H
   clear H
   have H := H1
   clear H1
   obtain rfl := Option.some.inj H
   go_enter Try.func113, Try.ntmps113
   go_wp2_with (first | ((with_reducible refine gate_dst (N := 2) rfl ?_); refine bx_ (N := 2) #[.int .i64 a0_0, .int .i64 a0_1, .int .i64 a0_2, .bool a0_3] 85 ?_; intro gb131 hg w34 hbox hb; have BK131 := ak hbox; have GW131 := gy hg HB; have GE131 := gy hg HB; replace HB := bs HB hb; clear hb hbox hg) | ((with_reducible refine gate_dst (N := 3) rfl ?_); refine bx_ (N := 3) #[.int .i64 a1_0, .int .i64 a1_1, .int .i64 a1_2, .int .i64 a1_3, .int .i64 a1_4, .slice A1_5 l1_5.length c1_5, .int .i64 a1_6, .int .i64 a1_7, .int .i64 a1_8] 40 ?_; intro gb132 hg w35 hbox hb; have BK132 := ak hbox; have GW132 := gy hg HB; have GE132 := gy hg HB; replace HB := bs HB hb; have NB131_132 := gm hg BK131; have NB132_131 := gn hg BK131; replace BK131 := kf BK131 hb; clear hb hbox hg; have hnb36 := NB131_132.out; have hnc36 := NB132_131.out; obtain ⟨_, _, _, _, _, _, _, _⟩ := bc4 BK131) | ((with_reducible refine gate_callee (f := 91) rfl ?_); refine goesL_ (some 7) rfl rfl Try.func91 KR rfl #[.int .i64 a0_0, .int .i64 0, .int .i64 999] rfl AR ?_; (with_reducible refine (spec_l1In.calls a0_0 0 999 true _ A3.out).mono ?_); rintro e w' ⟨rfl, ⟨nd, rfl⟩⟩; refine ⟨_, rfl, ?_⟩) | (go_at_call 91; (with_reducible refine (spec_l1In.calls a0_1 0 999 false _ A5.out).mono ?_); rintro e w' ⟨rfl, ⟨nd, rfl⟩⟩))
   go_ret
   exact ⟨RT, PB⟩
 ·replace c4 := Bool.eq_false_iff.mpr c4
  subst c4
  have H1 : (some false) = some r := by rw [if_neg (show ¬ (false = true) by decide)] at H; exact H
  clear H
  have H := H1
  clear H1
  obtain rfl := Option.some.inj H
  go_enter Try.func113, Try.ntmps113
  go_wp2_with (first | ((with_reducible refine gate_dst (N := 2) rfl ?_); refine bx_ (N := 2) #[.int .i64 a0_0, .int .i64 a0_1, .int .i64 a0_2, .bool a0_3] 85 ?_; intro gb131 hg w38 hbox hb; have BK131 := ak hbox; have GW131 := gy hg HB; have GE131 := gy hg HB; replace HB := bs HB hb; clear hb hbox hg) | ((with_reducible refine gate_dst (N := 3) rfl ?_); refine bx_ (N := 3) #[.int .i64 a1_0, .int .i64 a1_1, .int .i64 a1_2, .int .i64 a1_3, .int .i64 a1_4, .slice A1_5 l1_5.length c1_5, .int .i64 a1_6, .int .i64 a1_7, .int .i64 a1_8] 40 ?_; intro gb132 hg w39 hbox hb; have BK132 := ak hbox; have GW132 := gy hg HB; have GE132 := gy hg HB; replace HB := bs HB hb; have NB131_132 := gm hg BK131; have NB132_131 := gn hg BK131; replace BK131 := kf BK131 hb; clear hb hbox hg; have hnb40 := NB131_132.out; have hnc40 := NB132_131.out; obtain ⟨_, _, _, _, _, _, _, _⟩ := bc4 BK131) | ((with_reducible refine gate_callee (f := 91) rfl ?_); refine goesL_ (some 7) rfl rfl Try.func91 KR rfl #[.int .i64 a0_0, .int .i64 0, .int .i64 999] rfl AR ?_; (with_reducible refine (spec_l1In.calls a0_0 0 999 false _ A3.out).mono ?_); rintro e w' ⟨rfl, ⟨nd, rfl⟩⟩; refine ⟨_, rfl, ?_⟩))
  go_ret
  exact ⟨RT, PB⟩

end Go.Proofs.Ytgcamebeonodeaa.MFnExactLearnForm
