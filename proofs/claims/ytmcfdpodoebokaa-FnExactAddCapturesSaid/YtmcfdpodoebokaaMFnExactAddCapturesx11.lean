-- Written by a program of this session out of the translation's own print. Not trusted: Lean checks it.
import Derived.Test.YtmcfdpodoebokaaShr2
import Derived.Test.YtmcfdpodoebokaaMFnExactAddCapturesx0
import Derived.Test.YtmcfdpodoebokaaMFnExactAddCapturesx9
namespace Go.Proofs.Ytmcfdpodoebokaa.MFnExactAddCaptures
open Go.RowKit Go.Proofs.YtmcfdpodoebokaaW.PrintWords Go.Proofs.YtmcfdpodoebokaaW.PrintLast Go.Proofs.YtmcfdpodoebokaaW.PrintMore
attribute [local go_sem] max2_int min2_int max_two min_two max_three min_three max_four min_four   -- for this text's walks alone
set_option linter.unusedVariables false
set_option linter.unusedSimpArgs false

/-! ### laws_heldCaptureS: function 10 -/
def laws_heldCaptureS.l0 : Nat → List (S45) → Int → Int → Option (Int)
  | 0, _, _, _ => none
  | k + 1, x0, x1, x5 => if x5 < (x0.length : Int) then (if 0 ≤ x5 then (if ((rd_T45 x0 x5).f0.f0) = x1 then (if ((rd_T45 x0 x5).f0.f1) = (wrap64 (x1 + 1)) then (if ((rd_T45 x0 x5).f0.f2) = (wrap64 ((wrap64 (x1 + 1)) + 1)) then (if ((rd_T45 x0 x5).f1) = (wrap64 ((wrap64 ((wrap64 (x1 + 1)) + 1)) + 1)) then (if ((rd_T45 x0 x5).f2.f0) = (wrap64 ((wrap64 ((wrap64 ((wrap64 (x1 + 1)) + 1)) + 1)) + 1)) then ((laws_heldIntS.f k ((rd_T45 x0 x5).f2.f1) (wrap64 ((wrap64 ((wrap64 ((wrap64 ((wrap64 (x1 + 1)) + 1)) + 1)) + 1)) + 1))).bind fun t324 => (if t324 < 0 then (some (-1)) else (if ((rd_T45 x0 x5).f2.f2.f0) = t324 then (if ((rd_T45 x0 x5).f2.f2.f1) = (wrap64 (t324 + 1)) then (if ((rd_T45 x0 x5).f2.f2.f2) = (wrap64 ((wrap64 (t324 + 1)) + 1)) then (laws_heldCaptureS.l0 k x0 (wrap64 ((wrap64 ((wrap64 (t324 + 1)) + 1)) + 1)) (wrap64 (x5 + 1))) else (some (-1))) else (some (-1))) else (some (-1))))) else (some (-1))) else (some (-1))) else (some (-1))) else (some (-1))) else (some (-1))) else (none)) else (some x1)
def laws_heldCaptureS.f (k : Nat) (l0 : List (S45)) (a1 : Int) : Option (Int) := laws_heldCaptureS.l0 k l0 a1 0
set_option maxHeartbeats 8000000 in
set_option maxRecDepth 100000 in
theorem laws_heldCaptureS.calls (k : Nat) (A0 : Option Addr) (c0 : Nat) (l0 : List (S45)) (a1 : Int) (r : Int) (w : World) (hr0 : Kd.C k45 w A0 l0.length l0) (hc0 : l0.length ≤ c0) (h : laws_heldCaptureS.f k l0 a1 = some r) :
  Calls Try.prog 10 #[.slice A0 l0.length c0, .int .i64 a1] w fun e w' => e = .returned (.int .i64 r) ∧ Drawn0 w w' := by
 have HR0 := Aside0.mk hr0
 have HC0 := Aside0.mk hc0
 clear hr0 hc0
 have H : (laws_heldCaptureS.l0 k l0 a1 0) = some r := h
 clear h
 have H' := Aside0.mk H
 clear H
 go_enter Try.func10, Try.ntmps10
 go_wp2
 go_loopg [1, 5] k (fun kq v1 v5 w' => ∃ (x1_1 : Int) (x5_1 : Int), v1 = .int .i64 x1_1 ∧ v5 = .int .i64 x5_1 ∧ Aside0 (laws_heldCaptureS.l0 kq l0 x1_1 x5_1 = some r) ∧ Aside0 (kq ≤ k) ∧ Drawn0 w w')
 case atStart => exact ⟨(a1), (0), (by first | rfl | (simp; done) | (simp [*]; done)), (by first | rfl | (simp; done) | (simp [*]; done)), H', ⟨Nat.le_refl _⟩, by repeat (first | exact Drawn0.refl _ | apply Drawn0.step)⟩
 case round =>
  clear H'
  (try clear c1); (try clear p2)
  obtain ⟨x1_1, x5_1, rfl, rfl, HA, HK1, ⟨m1, rfl⟩⟩ := hrel
  cases gk with
  | zero => exact absurd HA.out (by simp [laws_heldCaptureS.l0])
  | succ k1 =>
   have H := HA.out
   clear HA
   simp only [laws_heldCaptureS.l0] at H
   by_cases c3 : x5_1 < (l0.length : Int)
   ·rw [if_pos c3] at H
    have c3b0 : decide (x5_1 < (l0.length : Int)) = true := decide_eq_true c3
    clear c3
    by_cases c4 : 0 ≤ x5_1
    ·rw [if_pos c4] at H
     have c4b0 : decide (0 ≤ x5_1) = true := decide_eq_true c4
     clear c4
     by_cases c5 : ((rd_T45 l0 x5_1).f0.f0) = x1_1
     ·rw [if_pos c5] at H
      have c5b0 : (((rd_T45 l0 x5_1).f0.f0) == x1_1) = true := beq_iff_eq.mpr c5
      have c5b1 : (((rd_T45 l0 x5_1).f0.f0) != x1_1) = false := bne_eq_false_iff_eq.mpr c5
      clear c5
      by_cases c6 : ((rd_T45 l0 x5_1).f0.f1) = (wrap64 (x1_1 + 1))
      ·rw [if_pos c6] at H
       have c6b0 : (((rd_T45 l0 x5_1).f0.f1) == (wrap64 (x1_1 + 1))) = true := beq_iff_eq.mpr c6
       have c6b1 : (((rd_T45 l0 x5_1).f0.f1) != (wrap64 (x1_1 + 1))) = false := bne_eq_false_iff_eq.mpr c6
       clear c6
       by_cases c7 : ((rd_T45 l0 x5_1).f0.f2) = (wrap64 ((wrap64 (x1_1 + 1)) + 1))
       ·rw [if_pos c7] at H
        have c7b0 : (((rd_T45 l0 x5_1).f0.f2) == (wrap64 ((wrap64 (x1_1 + 1)) + 1))) = true := beq_iff_eq.mpr c7
        have c7b1 : (((rd_T45 l0 x5_1).f0.f2) != (wrap64 ((wrap64 (x1_1 + 1)) + 1))) = false := bne_eq_false_iff_eq.mpr c7
        clear c7
        by_cases c8 : ((rd_T45 l0 x5_1).f1) = (wrap64 ((wrap64 ((wrap64 (x1_1 + 1)) + 1)) + 1))
        ·rw [if_pos c8] at H
         have c8b0 : (((rd_T45 l0 x5_1).f1) == (wrap64 ((wrap64 ((wrap64 (x1_1 + 1)) + 1)) + 1))) = true := beq_iff_eq.mpr c8
         have c8b1 : (((rd_T45 l0 x5_1).f1) != (wrap64 ((wrap64 ((wrap64 (x1_1 + 1)) + 1)) + 1))) = false := bne_eq_false_iff_eq.mpr c8
         clear c8
         by_cases c9 : ((rd_T45 l0 x5_1).f2.f0) = (wrap64 ((wrap64 ((wrap64 ((wrap64 (x1_1 + 1)) + 1)) + 1)) + 1))
         ·rw [if_pos c9] at H
          have c9b0 : (((rd_T45 l0 x5_1).f2.f0) == (wrap64 ((wrap64 ((wrap64 ((wrap64 (x1_1 + 1)) + 1)) + 1)) + 1))) = true := beq_iff_eq.mpr c9
          have c9b1 : (((rd_T45 l0 x5_1).f2.f0) != (wrap64 ((wrap64 ((wrap64 ((wrap64 (x1_1 + 1)) + 1)) + 1)) + 1))) = false := bne_eq_false_iff_eq.mpr c9
          clear c9
          replace H := Option.bind_eq_some_iff.mp H
          obtain ⟨t324, A100, H⟩ := H
          replace H : (if t324 < 0 then (some (-1)) else (if ((rd_T45 l0 x5_1).f2.f2.f0) = t324 then (if ((rd_T45 l0 x5_1).f2.f2.f1) = (wrap64 (t324 + 1)) then (if ((rd_T45 l0 x5_1).f2.f2.f2) = (wrap64 ((wrap64 (t324 + 1)) + 1)) then (laws_heldCaptureS.l0 k1 l0 (wrap64 ((wrap64 ((wrap64 (t324 + 1)) + 1)) + 1)) (wrap64 (x5_1 + 1))) else (some (-1))) else (some (-1))) else (some (-1)))) = some r := H
          have A10 := Aside0.mk A100
          clear A100
          by_cases c11 : t324 < 0
          ·rw [if_pos c11] at H
           have c11b0 : decide (t324 < 0) = true := decide_eq_true c11
           clear c11
           obtain rfl := Option.some.inj H
           have p318 : 0 ≤ (x5_1 : Int) := of_decide_eq_true (by first | (with_reducible assumption) | assumption)
           have q318 : x5_1 < (l0.length : Int) := of_decide_eq_true (by first | (with_reducible assumption) | assumption)
           obtain ⟨ad318, A318_5, c318_5, e318, hx318_0, hx318_1, hx318_2, hx318_3, hx318_4, hx318_5, hx318_6, hx318_7, hx318_8, hl318_5, hi318_5⟩ := at_T45 HR0.out x5_1 p318 q318
           cases e318
           have HR318_5 := Aside0.mk hi318_5
           have HC318_5 := Aside0.mk hl318_5
           clear hi318_5 hl318_5
           replace p318 := eq_true p318
           replace q318 := eq_true q318
           have p319 : 0 ≤ (x5_1 : Int) := of_decide_eq_true (by first | (with_reducible assumption) | assumption)
           have q319 : x5_1 < (l0.length : Int) := of_decide_eq_true (by first | (with_reducible assumption) | assumption)
           obtain ⟨ad319, A319_5, c319_5, e319, hx319_0, hx319_1, hx319_2, hx319_3, hx319_4, hx319_5, hx319_6, hx319_7, hx319_8, hl319_5, hi319_5⟩ := at_T45 HR0.out x5_1 p319 q319
           obtain rfl : ad318 = ad319 := (by injection e319)
           have HR319_5 := Aside0.mk hi319_5
           have HC319_5 := Aside0.mk hl319_5
           clear hi319_5 hl319_5
           replace p319 := eq_true p319
           replace q319 := eq_true q319
           have ea_ := Option.some.inj (hx318_5.symm.trans hx319_5)
           injection ea_ with ea_ en_ ec_
           (first | subst ea_ | clear ea_)
           (first | subst ec_ | clear ec_)
           clear en_
           have p320 : 0 ≤ (x5_1 : Int) := of_decide_eq_true (by first | (with_reducible assumption) | assumption)
           have q320 : x5_1 < (l0.length : Int) := of_decide_eq_true (by first | (with_reducible assumption) | assumption)
           obtain ⟨ad320, A320_5, c320_5, e320, hx320_0, hx320_1, hx320_2, hx320_3, hx320_4, hx320_5, hx320_6, hx320_7, hx320_8, hl320_5, hi320_5⟩ := at_T45 HR0.out x5_1 p320 q320
           obtain rfl : ad318 = ad320 := (by injection e320)
           have HR320_5 := Aside0.mk hi320_5
           have HC320_5 := Aside0.mk hl320_5
           clear hi320_5 hl320_5
           replace p320 := eq_true p320
           replace q320 := eq_true q320
           have ea_ := Option.some.inj (hx318_5.symm.trans hx320_5)
           injection ea_ with ea_ en_ ec_
           (first | subst ea_ | clear ea_)
           (first | subst ec_ | clear ec_)
           clear en_
           have p321 : 0 ≤ (x5_1 : Int) := of_decide_eq_true (by first | (with_reducible assumption) | assumption)
           have q321 : x5_1 < (l0.length : Int) := of_decide_eq_true (by first | (with_reducible assumption) | assumption)
           obtain ⟨ad321, A321_5, c321_5, e321, hx321_0, hx321_1, hx321_2, hx321_3, hx321_4, hx321_5, hx321_6, hx321_7, hx321_8, hl321_5, hi321_5⟩ := at_T45 HR0.out x5_1 p321 q321
           obtain rfl : ad318 = ad321 := (by injection e321)
           have HR321_5 := Aside0.mk hi321_5
           have HC321_5 := Aside0.mk hl321_5
           clear hi321_5 hl321_5
           replace p321 := eq_true p321
           replace q321 := eq_true q321
           have ea_ := Option.some.inj (hx318_5.symm.trans hx321_5)
           injection ea_ with ea_ en_ ec_
           (first | subst ea_ | clear ea_)
           (first | subst ec_ | clear ec_)
           clear en_
           have p322 : 0 ≤ (x5_1 : Int) := of_decide_eq_true (by first | (with_reducible assumption) | assumption)
           have q322 : x5_1 < (l0.length : Int) := of_decide_eq_true (by first | (with_reducible assumption) | assumption)
           obtain ⟨ad322, A322_5, c322_5, e322, hx322_0, hx322_1, hx322_2, hx322_3, hx322_4, hx322_5, hx322_6, hx322_7, hx322_8, hl322_5, hi322_5⟩ := at_T45 HR0.out x5_1 p322 q322
           obtain rfl : ad318 = ad322 := (by injection e322)
           have HR322_5 := Aside0.mk hi322_5
           have HC322_5 := Aside0.mk hl322_5
           clear hi322_5 hl322_5
           replace p322 := eq_true p322
           replace q322 := eq_true q322
           have ea_ := Option.some.inj (hx318_5.symm.trans hx322_5)
           injection ea_ with ea_ en_ ec_
           (first | subst ea_ | clear ea_)
           (first | subst ec_ | clear ec_)
           clear en_
           have p323 : 0 ≤ (x5_1 : Int) := of_decide_eq_true (by first | (with_reducible assumption) | assumption)
           have q323 : x5_1 < (l0.length : Int) := of_decide_eq_true (by first | (with_reducible assumption) | assumption)
           obtain ⟨ad323, A323_5, c323_5, e323, hx323_0, hx323_1, hx323_2, hx323_3, hx323_4, hx323_5, hx323_6, hx323_7, hx323_8, hl323_5, hi323_5⟩ := at_T45 HR0.out x5_1 p323 q323
           obtain rfl : ad318 = ad323 := (by injection e323)
           have HR323_5 := Aside0.mk hi323_5
           have HC323_5 := Aside0.mk hl323_5
           clear hi323_5 hl323_5
           replace p323 := eq_true p323
           replace q323 := eq_true q323
           have ea_ := Option.some.inj (hx318_5.symm.trans hx323_5)
           injection ea_ with ea_ en_ ec_
           (first | subst ea_ | clear ea_)
           (first | subst ec_ | clear ec_)
           clear en_
           go_wp2_with (first | ((with_reducible refine gate_callee (f := 22) rfl ?_); refine goesL_ (some 68) rfl rfl Try.func22 KR rfl #[.slice A318_5 ((rd_T45 l0 x5_1).f2.f1).length c318_5, .int .i64 (wrap64 ((wrap64 ((wrap64 ((wrap64 ((wrap64 (x1_1 + 1)) + 1)) + 1)) + 1)) + 1))] rfl AR ?_; (with_reducible refine (laws_heldIntS.calls k1 _ _ ((rd_T45 l0 x5_1).f2.f1) (wrap64 ((wrap64 ((wrap64 ((wrap64 ((wrap64 (x1_1 + 1)) + 1)) + 1)) + 1)) + 1)) t324 _ ?side1 ?side2 A10.out).mono ?_); (case side1 => exact CR (HR323_5.out)); (case side2 => exact HC323_5.out); rintro e w' ⟨rfl, ⟨nd, rfl⟩⟩; refine ⟨_, rfl, ?_⟩))
           go_ret
           exact ⟨by first | rfl | (simp; done) | (simp [*]; done), by repeat (first | exact Drawn0.refl _ | apply Drawn0.step)⟩
          ·rw [if_neg c11] at H
           have c11b0 : decide (t324 < 0) = false := decide_eq_false c11
           clear c11
           by_cases c12 : ((rd_T45 l0 x5_1).f2.f2.f0) = t324
           ·rw [if_pos c12] at H
            have c12b0 : (((rd_T45 l0 x5_1).f2.f2.f0) == t324) = true := beq_iff_eq.mpr c12
            have c12b1 : (((rd_T45 l0 x5_1).f2.f2.f0) != t324) = false := bne_eq_false_iff_eq.mpr c12
            clear c12
            by_cases c13 : ((rd_T45 l0 x5_1).f2.f2.f1) = (wrap64 (t324 + 1))
            ·rw [if_pos c13] at H
             have c13b0 : (((rd_T45 l0 x5_1).f2.f2.f1) == (wrap64 (t324 + 1))) = true := beq_iff_eq.mpr c13
             have c13b1 : (((rd_T45 l0 x5_1).f2.f2.f1) != (wrap64 (t324 + 1))) = false := bne_eq_false_iff_eq.mpr c13
             clear c13
             by_cases c14 : ((rd_T45 l0 x5_1).f2.f2.f2) = (wrap64 ((wrap64 (t324 + 1)) + 1))
             ·rw [if_pos c14] at H
              have c14b0 : (((rd_T45 l0 x5_1).f2.f2.f2) == (wrap64 ((wrap64 (t324 + 1)) + 1))) = true := beq_iff_eq.mpr c14
              have c14b1 : (((rd_T45 l0 x5_1).f2.f2.f2) != (wrap64 ((wrap64 (t324 + 1)) + 1))) = false := bne_eq_false_iff_eq.mpr c14
              clear c14
              have H' := Aside0.mk H
              clear H
              have p318 : 0 ≤ (x5_1 : Int) := of_decide_eq_true (by first | (with_reducible assumption) | assumption)
              have q318 : x5_1 < (l0.length : Int) := of_decide_eq_true (by first | (with_reducible assumption) | assumption)
              obtain ⟨ad318, A318_5, c318_5, e318, hx318_0, hx318_1, hx318_2, hx318_3, hx318_4, hx318_5, hx318_6, hx318_7, hx318_8, hl318_5, hi318_5⟩ := at_T45 HR0.out x5_1 p318 q318
              cases e318
              have HR318_5 := Aside0.mk hi318_5
              have HC318_5 := Aside0.mk hl318_5
              clear hi318_5 hl318_5
              replace p318 := eq_true p318
              replace q318 := eq_true q318
              have p319 : 0 ≤ (x5_1 : Int) := of_decide_eq_true (by first | (with_reducible assumption) | assumption)
              have q319 : x5_1 < (l0.length : Int) := of_decide_eq_true (by first | (with_reducible assumption) | assumption)
              obtain ⟨ad319, A319_5, c319_5, e319, hx319_0, hx319_1, hx319_2, hx319_3, hx319_4, hx319_5, hx319_6, hx319_7, hx319_8, hl319_5, hi319_5⟩ := at_T45 HR0.out x5_1 p319 q319
              obtain rfl : ad318 = ad319 := (by injection e319)
              have HR319_5 := Aside0.mk hi319_5
              have HC319_5 := Aside0.mk hl319_5
              clear hi319_5 hl319_5
              replace p319 := eq_true p319
              replace q319 := eq_true q319
              have ea_ := Option.some.inj (hx318_5.symm.trans hx319_5)
              injection ea_ with ea_ en_ ec_
              (first | subst ea_ | clear ea_)
              (first | subst ec_ | clear ec_)
              clear en_
              have p320 : 0 ≤ (x5_1 : Int) := of_decide_eq_true (by first | (with_reducible assumption) | assumption)
              have q320 : x5_1 < (l0.length : Int) := of_decide_eq_true (by first | (with_reducible assumption) | assumption)
              obtain ⟨ad320, A320_5, c320_5, e320, hx320_0, hx320_1, hx320_2, hx320_3, hx320_4, hx320_5, hx320_6, hx320_7, hx320_8, hl320_5, hi320_5⟩ := at_T45 HR0.out x5_1 p320 q320
              obtain rfl : ad318 = ad320 := (by injection e320)
              have HR320_5 := Aside0.mk hi320_5
              have HC320_5 := Aside0.mk hl320_5
              clear hi320_5 hl320_5
              replace p320 := eq_true p320
              replace q320 := eq_true q320
              have ea_ := Option.some.inj (hx318_5.symm.trans hx320_5)
              injection ea_ with ea_ en_ ec_
              (first | subst ea_ | clear ea_)
              (first | subst ec_ | clear ec_)
              clear en_
              have p321 : 0 ≤ (x5_1 : Int) := of_decide_eq_true (by first | (with_reducible assumption) | assumption)
              have q321 : x5_1 < (l0.length : Int) := of_decide_eq_true (by first | (with_reducible assumption) | assumption)
              obtain ⟨ad321, A321_5, c321_5, e321, hx321_0, hx321_1, hx321_2, hx321_3, hx321_4, hx321_5, hx321_6, hx321_7, hx321_8, hl321_5, hi321_5⟩ := at_T45 HR0.out x5_1 p321 q321
              obtain rfl : ad318 = ad321 := (by injection e321)
              have HR321_5 := Aside0.mk hi321_5
              have HC321_5 := Aside0.mk hl321_5
              clear hi321_5 hl321_5
              replace p321 := eq_true p321
              replace q321 := eq_true q321
              have ea_ := Option.some.inj (hx318_5.symm.trans hx321_5)
              injection ea_ with ea_ en_ ec_
              (first | subst ea_ | clear ea_)
              (first | subst ec_ | clear ec_)
              clear en_
              have p322 : 0 ≤ (x5_1 : Int) := of_decide_eq_true (by first | (with_reducible assumption) | assumption)
              have q322 : x5_1 < (l0.length : Int) := of_decide_eq_true (by first | (with_reducible assumption) | assumption)
              obtain ⟨ad322, A322_5, c322_5, e322, hx322_0, hx322_1, hx322_2, hx322_3, hx322_4, hx322_5, hx322_6, hx322_7, hx322_8, hl322_5, hi322_5⟩ := at_T45 HR0.out x5_1 p322 q322
              obtain rfl : ad318 = ad322 := (by injection e322)
              have HR322_5 := Aside0.mk hi322_5
              have HC322_5 := Aside0.mk hl322_5
              clear hi322_5 hl322_5
              replace p322 := eq_true p322
              replace q322 := eq_true q322
              have ea_ := Option.some.inj (hx318_5.symm.trans hx322_5)
              injection ea_ with ea_ en_ ec_
              (first | subst ea_ | clear ea_)
              (first | subst ec_ | clear ec_)
              clear en_
              have p323 : 0 ≤ (x5_1 : Int) := of_decide_eq_true (by first | (with_reducible assumption) | assumption)
              have q323 : x5_1 < (l0.length : Int) := of_decide_eq_true (by first | (with_reducible assumption) | assumption)
              obtain ⟨ad323, A323_5, c323_5, e323, hx323_0, hx323_1, hx323_2, hx323_3, hx323_4, hx323_5, hx323_6, hx323_7, hx323_8, hl323_5, hi323_5⟩ := at_T45 HR0.out x5_1 p323 q323
              obtain rfl : ad318 = ad323 := (by injection e323)
              have HR323_5 := Aside0.mk hi323_5
              have HC323_5 := Aside0.mk hl323_5
              clear hi323_5 hl323_5
              replace p323 := eq_true p323
              replace q323 := eq_true q323
              have ea_ := Option.some.inj (hx318_5.symm.trans hx323_5)
              injection ea_ with ea_ en_ ec_
              (first | subst ea_ | clear ea_)
              (first | subst ec_ | clear ec_)
              clear en_
              go_wp2_with (first | ((with_reducible refine gate_callee (f := 22) rfl ?_); refine goesL_ (some 68) rfl rfl Try.func22 KR rfl #[.slice A318_5 ((rd_T45 l0 x5_1).f2.f1).length c318_5, .int .i64 (wrap64 ((wrap64 ((wrap64 ((wrap64 ((wrap64 (x1_1 + 1)) + 1)) + 1)) + 1)) + 1))] rfl AR ?_; (with_reducible refine (laws_heldIntS.calls k1 _ _ ((rd_T45 l0 x5_1).f2.f1) (wrap64 ((wrap64 ((wrap64 ((wrap64 ((wrap64 (x1_1 + 1)) + 1)) + 1)) + 1)) + 1)) t324 _ ?side1 ?side2 A10.out).mono ?_); (case side1 => exact CR (HR323_5.out)); (case side2 => exact HC323_5.out); rintro e w' ⟨rfl, ⟨nd, rfl⟩⟩; refine ⟨_, rfl, ?_⟩; have p325 : 0 ≤ (x5_1 : Int) := of_decide_eq_true (by first | (with_reducible assumption) | assumption); have q325 : x5_1 < (l0.length : Int) := of_decide_eq_true (by first | (with_reducible assumption) | assumption); obtain ⟨ad325, A325_5, c325_5, e325, hx325_0, hx325_1, hx325_2, hx325_3, hx325_4, hx325_5, hx325_6, hx325_7, hx325_8, hl325_5, hi325_5⟩ := at_T45 HR0.out x5_1 p325 q325; obtain rfl : ad318 = ad325 := (by injection e325); have HR325_5 := Aside0.mk hi325_5; have HC325_5 := Aside0.mk hl325_5; clear hi325_5 hl325_5; replace p325 := eq_true p325; replace q325 := eq_true q325; have ea_ := Option.some.inj (hx318_5.symm.trans hx325_5); injection ea_ with ea_ en_ ec_; subst ea_; subst ec_; clear en_; have p326 : 0 ≤ (x5_1 : Int) := of_decide_eq_true (by first | (with_reducible assumption) | assumption); have q326 : x5_1 < (l0.length : Int) := of_decide_eq_true (by first | (with_reducible assumption) | assumption); obtain ⟨ad326, A326_5, c326_5, e326, hx326_0, hx326_1, hx326_2, hx326_3, hx326_4, hx326_5, hx326_6, hx326_7, hx326_8, hl326_5, hi326_5⟩ := at_T45 HR0.out x5_1 p326 q326; obtain rfl : ad318 = ad326 := (by injection e326); have HR326_5 := Aside0.mk hi326_5; have HC326_5 := Aside0.mk hl326_5; clear hi326_5 hl326_5; replace p326 := eq_true p326; replace q326 := eq_true q326; have ea_ := Option.some.inj (hx318_5.symm.trans hx326_5); injection ea_ with ea_ en_ ec_; subst ea_; subst ec_; clear en_; have p327 : 0 ≤ (x5_1 : Int) := of_decide_eq_true (by first | (with_reducible assumption) | assumption); have q327 : x5_1 < (l0.length : Int) := of_decide_eq_true (by first | (with_reducible assumption) | assumption); obtain ⟨ad327, A327_5, c327_5, e327, hx327_0, hx327_1, hx327_2, hx327_3, hx327_4, hx327_5, hx327_6, hx327_7, hx327_8, hl327_5, hi327_5⟩ := at_T45 HR0.out x5_1 p327 q327; obtain rfl : ad318 = ad327 := (by injection e327); have HR327_5 := Aside0.mk hi327_5; have HC327_5 := Aside0.mk hl327_5; clear hi327_5 hl327_5; replace p327 := eq_true p327; replace q327 := eq_true q327; have ea_ := Option.some.inj (hx318_5.symm.trans hx327_5); injection ea_ with ea_ en_ ec_; subst ea_; subst ec_; clear en_))
              go_roundg k1
              case measure => have := HK1.out; omega
              case rel => exact ⟨(wrap64 ((wrap64 ((wrap64 (t324 + 1)) + 1)) + 1)), (wrap64 (x5_1 + 1)), (by first | rfl | (simp; done) | (simp [*]; done)), (by first | rfl | (simp; done) | (simp [*]; done)), H', ⟨by have := HK1.out; omega⟩, by repeat (first | exact Drawn0.refl _ | apply Drawn0.step)⟩
             ·rw [if_neg c14] at H
              have c14b0 : (((rd_T45 l0 x5_1).f2.f2.f2) == (wrap64 ((wrap64 (t324 + 1)) + 1))) = false := beq_eq_false_iff_ne.mpr c14
              have c14b1 : (((rd_T45 l0 x5_1).f2.f2.f2) != (wrap64 ((wrap64 (t324 + 1)) + 1))) = true := bne_iff_ne.mpr c14
              obtain rfl := Option.some.inj H
              have p318 : 0 ≤ (x5_1 : Int) := of_decide_eq_true (by first | (with_reducible assumption) | assumption)
              have q318 : x5_1 < (l0.length : Int) := of_decide_eq_true (by first | (with_reducible assumption) | assumption)
              obtain ⟨ad318, A318_5, c318_5, e318, hx318_0, hx318_1, hx318_2, hx318_3, hx318_4, hx318_5, hx318_6, hx318_7, hx318_8, hl318_5, hi318_5⟩ := at_T45 HR0.out x5_1 p318 q318
              cases e318
              have HR318_5 := Aside0.mk hi318_5
              have HC318_5 := Aside0.mk hl318_5
              clear hi318_5 hl318_5
              replace p318 := eq_true p318
              replace q318 := eq_true q318
              have p319 : 0 ≤ (x5_1 : Int) := of_decide_eq_true (by first | (with_reducible assumption) | assumption)
              have q319 : x5_1 < (l0.length : Int) := of_decide_eq_true (by first | (with_reducible assumption) | assumption)
              obtain ⟨ad319, A319_5, c319_5, e319, hx319_0, hx319_1, hx319_2, hx319_3, hx319_4, hx319_5, hx319_6, hx319_7, hx319_8, hl319_5, hi319_5⟩ := at_T45 HR0.out x5_1 p319 q319
              obtain rfl : ad318 = ad319 := (by injection e319)
              have HR319_5 := Aside0.mk hi319_5
              have HC319_5 := Aside0.mk hl319_5
              clear hi319_5 hl319_5
              replace p319 := eq_true p319
              replace q319 := eq_true q319
              have ea_ := Option.some.inj (hx318_5.symm.trans hx319_5)
              injection ea_ with ea_ en_ ec_
              (first | subst ea_ | clear ea_)
              (first | subst ec_ | clear ec_)
              clear en_
              have p320 : 0 ≤ (x5_1 : Int) := of_decide_eq_true (by first | (with_reducible assumption) | assumption)
              have q320 : x5_1 < (l0.length : Int) := of_decide_eq_true (by first | (with_reducible assumption) | assumption)
              obtain ⟨ad320, A320_5, c320_5, e320, hx320_0, hx320_1, hx320_2, hx320_3, hx320_4, hx320_5, hx320_6, hx320_7, hx320_8, hl320_5, hi320_5⟩ := at_T45 HR0.out x5_1 p320 q320
              obtain rfl : ad318 = ad320 := (by injection e320)
              have HR320_5 := Aside0.mk hi320_5
              have HC320_5 := Aside0.mk hl320_5
              clear hi320_5 hl320_5
              replace p320 := eq_true p320
              replace q320 := eq_true q320
              have ea_ := Option.some.inj (hx318_5.symm.trans hx320_5)
              injection ea_ with ea_ en_ ec_
              (first | subst ea_ | clear ea_)
              (first | subst ec_ | clear ec_)
              clear en_
              have p321 : 0 ≤ (x5_1 : Int) := of_decide_eq_true (by first | (with_reducible assumption) | assumption)
              have q321 : x5_1 < (l0.length : Int) := of_decide_eq_true (by first | (with_reducible assumption) | assumption)
              obtain ⟨ad321, A321_5, c321_5, e321, hx321_0, hx321_1, hx321_2, hx321_3, hx321_4, hx321_5, hx321_6, hx321_7, hx321_8, hl321_5, hi321_5⟩ := at_T45 HR0.out x5_1 p321 q321
              obtain rfl : ad318 = ad321 := (by injection e321)
              have HR321_5 := Aside0.mk hi321_5
              have HC321_5 := Aside0.mk hl321_5
              clear hi321_5 hl321_5
              replace p321 := eq_true p321
              replace q321 := eq_true q321
              have ea_ := Option.some.inj (hx318_5.symm.trans hx321_5)
              injection ea_ with ea_ en_ ec_
              (first | subst ea_ | clear ea_)
              (first | subst ec_ | clear ec_)
              clear en_
              have p322 : 0 ≤ (x5_1 : Int) := of_decide_eq_true (by first | (with_reducible assumption) | assumption)
              have q322 : x5_1 < (l0.length : Int) := of_decide_eq_true (by first | (with_reducible assumption) | assumption)
              obtain ⟨ad322, A322_5, c322_5, e322, hx322_0, hx322_1, hx322_2, hx322_3, hx322_4, hx322_5, hx322_6, hx322_7, hx322_8, hl322_5, hi322_5⟩ := at_T45 HR0.out x5_1 p322 q322
              obtain rfl : ad318 = ad322 := (by injection e322)
              have HR322_5 := Aside0.mk hi322_5
              have HC322_5 := Aside0.mk hl322_5
              clear hi322_5 hl322_5
              replace p322 := eq_true p322
              replace q322 := eq_true q322
              have ea_ := Option.some.inj (hx318_5.symm.trans hx322_5)
              injection ea_ with ea_ en_ ec_
              (first | subst ea_ | clear ea_)
              (first | subst ec_ | clear ec_)
              clear en_
              have p323 : 0 ≤ (x5_1 : Int) := of_decide_eq_true (by first | (with_reducible assumption) | assumption)
              have q323 : x5_1 < (l0.length : Int) := of_decide_eq_true (by first | (with_reducible assumption) | assumption)
              obtain ⟨ad323, A323_5, c323_5, e323, hx323_0, hx323_1, hx323_2, hx323_3, hx323_4, hx323_5, hx323_6, hx323_7, hx323_8, hl323_5, hi323_5⟩ := at_T45 HR0.out x5_1 p323 q323
              obtain rfl : ad318 = ad323 := (by injection e323)
              have HR323_5 := Aside0.mk hi323_5
              have HC323_5 := Aside0.mk hl323_5
              clear hi323_5 hl323_5
              replace p323 := eq_true p323
              replace q323 := eq_true q323
              have ea_ := Option.some.inj (hx318_5.symm.trans hx323_5)
              injection ea_ with ea_ en_ ec_
              (first | subst ea_ | clear ea_)
              (first | subst ec_ | clear ec_)
              clear en_
              go_wp2_with (first | ((with_reducible refine gate_callee (f := 22) rfl ?_); refine goesL_ (some 68) rfl rfl Try.func22 KR rfl #[.slice A318_5 ((rd_T45 l0 x5_1).f2.f1).length c318_5, .int .i64 (wrap64 ((wrap64 ((wrap64 ((wrap64 ((wrap64 (x1_1 + 1)) + 1)) + 1)) + 1)) + 1))] rfl AR ?_; (with_reducible refine (laws_heldIntS.calls k1 _ _ ((rd_T45 l0 x5_1).f2.f1) (wrap64 ((wrap64 ((wrap64 ((wrap64 ((wrap64 (x1_1 + 1)) + 1)) + 1)) + 1)) + 1)) t324 _ ?side1 ?side2 A10.out).mono ?_); (case side1 => exact CR (HR323_5.out)); (case side2 => exact HC323_5.out); rintro e w' ⟨rfl, ⟨nd, rfl⟩⟩; refine ⟨_, rfl, ?_⟩; have p325 : 0 ≤ (x5_1 : Int) := of_decide_eq_true (by first | (with_reducible assumption) | assumption); have q325 : x5_1 < (l0.length : Int) := of_decide_eq_true (by first | (with_reducible assumption) | assumption); obtain ⟨ad325, A325_5, c325_5, e325, hx325_0, hx325_1, hx325_2, hx325_3, hx325_4, hx325_5, hx325_6, hx325_7, hx325_8, hl325_5, hi325_5⟩ := at_T45 HR0.out x5_1 p325 q325; obtain rfl : ad318 = ad325 := (by injection e325); have HR325_5 := Aside0.mk hi325_5; have HC325_5 := Aside0.mk hl325_5; clear hi325_5 hl325_5; replace p325 := eq_true p325; replace q325 := eq_true q325; have ea_ := Option.some.inj (hx318_5.symm.trans hx325_5); injection ea_ with ea_ en_ ec_; subst ea_; subst ec_; clear en_; have p326 : 0 ≤ (x5_1 : Int) := of_decide_eq_true (by first | (with_reducible assumption) | assumption); have q326 : x5_1 < (l0.length : Int) := of_decide_eq_true (by first | (with_reducible assumption) | assumption); obtain ⟨ad326, A326_5, c326_5, e326, hx326_0, hx326_1, hx326_2, hx326_3, hx326_4, hx326_5, hx326_6, hx326_7, hx326_8, hl326_5, hi326_5⟩ := at_T45 HR0.out x5_1 p326 q326; obtain rfl : ad318 = ad326 := (by injection e326); have HR326_5 := Aside0.mk hi326_5; have HC326_5 := Aside0.mk hl326_5; clear hi326_5 hl326_5; replace p326 := eq_true p326; replace q326 := eq_true q326; have ea_ := Option.some.inj (hx318_5.symm.trans hx326_5); injection ea_ with ea_ en_ ec_; subst ea_; subst ec_; clear en_; have p327 : 0 ≤ (x5_1 : Int) := of_decide_eq_true (by first | (with_reducible assumption) | assumption); have q327 : x5_1 < (l0.length : Int) := of_decide_eq_true (by first | (with_reducible assumption) | assumption); obtain ⟨ad327, A327_5, c327_5, e327, hx327_0, hx327_1, hx327_2, hx327_3, hx327_4, hx327_5, hx327_6, hx327_7, hx327_8, hl327_5, hi327_5⟩ := at_T45 HR0.out x5_1 p327 q327; obtain rfl : ad318 = ad327 := (by injection e327); have HR327_5 := Aside0.mk hi327_5; have HC327_5 := Aside0.mk hl327_5; clear hi327_5 hl327_5; replace p327 := eq_true p327; replace q327 := eq_true q327; have ea_ := Option.some.inj (hx318_5.symm.trans hx327_5); injection ea_ with ea_ en_ ec_; subst ea_; subst ec_; clear en_))
              go_ret
              exact ⟨by first | rfl | (simp; done) | (simp [*]; done), by repeat (first | exact Drawn0.refl _ | apply Drawn0.step)⟩
            ·rw [if_neg c13] at H
             have c13b0 : (((rd_T45 l0 x5_1).f2.f2.f1) == (wrap64 (t324 + 1))) = false := beq_eq_false_iff_ne.mpr c13
             have c13b1 : (((rd_T45 l0 x5_1).f2.f2.f1) != (wrap64 (t324 + 1))) = true := bne_iff_ne.mpr c13
             obtain rfl := Option.some.inj H
             have p318 : 0 ≤ (x5_1 : Int) := of_decide_eq_true (by first | (with_reducible assumption) | assumption)
             have q318 : x5_1 < (l0.length : Int) := of_decide_eq_true (by first | (with_reducible assumption) | assumption)
             obtain ⟨ad318, A318_5, c318_5, e318, hx318_0, hx318_1, hx318_2, hx318_3, hx318_4, hx318_5, hx318_6, hx318_7, hx318_8, hl318_5, hi318_5⟩ := at_T45 HR0.out x5_1 p318 q318
             cases e318
             have HR318_5 := Aside0.mk hi318_5
             have HC318_5 := Aside0.mk hl318_5
             clear hi318_5 hl318_5
             replace p318 := eq_true p318
             replace q318 := eq_true q318
             have p319 : 0 ≤ (x5_1 : Int) := of_decide_eq_true (by first | (with_reducible assumption) | assumption)
             have q319 : x5_1 < (l0.length : Int) := of_decide_eq_true (by first | (with_reducible assumption) | assumption)
             obtain ⟨ad319, A319_5, c319_5, e319, hx319_0, hx319_1, hx319_2, hx319_3, hx319_4, hx319_5, hx319_6, hx319_7, hx319_8, hl319_5, hi319_5⟩ := at_T45 HR0.out x5_1 p319 q319
             obtain rfl : ad318 = ad319 := (by injection e319)
             have HR319_5 := Aside0.mk hi319_5
             have HC319_5 := Aside0.mk hl319_5
             clear hi319_5 hl319_5
             replace p319 := eq_true p319
             replace q319 := eq_true q319
             have ea_ := Option.some.inj (hx318_5.symm.trans hx319_5)
             injection ea_ with ea_ en_ ec_
             (first | subst ea_ | clear ea_)
             (first | subst ec_ | clear ec_)
             clear en_
             have p320 : 0 ≤ (x5_1 : Int) := of_decide_eq_true (by first | (with_reducible assumption) | assumption)
             have q320 : x5_1 < (l0.length : Int) := of_decide_eq_true (by first | (with_reducible assumption) | assumption)
             obtain ⟨ad320, A320_5, c320_5, e320, hx320_0, hx320_1, hx320_2, hx320_3, hx320_4, hx320_5, hx320_6, hx320_7, hx320_8, hl320_5, hi320_5⟩ := at_T45 HR0.out x5_1 p320 q320
             obtain rfl : ad318 = ad320 := (by injection e320)
             have HR320_5 := Aside0.mk hi320_5
             have HC320_5 := Aside0.mk hl320_5
             clear hi320_5 hl320_5
             replace p320 := eq_true p320
             replace q320 := eq_true q320
             have ea_ := Option.some.inj (hx318_5.symm.trans hx320_5)
             injection ea_ with ea_ en_ ec_
             (first | subst ea_ | clear ea_)
             (first | subst ec_ | clear ec_)
             clear en_
             have p321 : 0 ≤ (x5_1 : Int) := of_decide_eq_true (by first | (with_reducible assumption) | assumption)
             have q321 : x5_1 < (l0.length : Int) := of_decide_eq_true (by first | (with_reducible assumption) | assumption)
             obtain ⟨ad321, A321_5, c321_5, e321, hx321_0, hx321_1, hx321_2, hx321_3, hx321_4, hx321_5, hx321_6, hx321_7, hx321_8, hl321_5, hi321_5⟩ := at_T45 HR0.out x5_1 p321 q321
             obtain rfl : ad318 = ad321 := (by injection e321)
             have HR321_5 := Aside0.mk hi321_5
             have HC321_5 := Aside0.mk hl321_5
             clear hi321_5 hl321_5
             replace p321 := eq_true p321
             replace q321 := eq_true q321
             have ea_ := Option.some.inj (hx318_5.symm.trans hx321_5)
             injection ea_ with ea_ en_ ec_
             (first | subst ea_ | clear ea_)
             (first | subst ec_ | clear ec_)
             clear en_
             have p322 : 0 ≤ (x5_1 : Int) := of_decide_eq_true (by first | (with_reducible assumption) | assumption)
             have q322 : x5_1 < (l0.length : Int) := of_decide_eq_true (by first | (with_reducible assumption) | assumption)
             obtain ⟨ad322, A322_5, c322_5, e322, hx322_0, hx322_1, hx322_2, hx322_3, hx322_4, hx322_5, hx322_6, hx322_7, hx322_8, hl322_5, hi322_5⟩ := at_T45 HR0.out x5_1 p322 q322
             obtain rfl : ad318 = ad322 := (by injection e322)
             have HR322_5 := Aside0.mk hi322_5
             have HC322_5 := Aside0.mk hl322_5
             clear hi322_5 hl322_5
             replace p322 := eq_true p322
             replace q322 := eq_true q322
             have ea_ := Option.some.inj (hx318_5.symm.trans hx322_5)
             injection ea_ with ea_ en_ ec_
             (first | subst ea_ | clear ea_)
             (first | subst ec_ | clear ec_)
             clear en_
             have p323 : 0 ≤ (x5_1 : Int) := of_decide_eq_true (by first | (with_reducible assumption) | assumption)
             have q323 : x5_1 < (l0.length : Int) := of_decide_eq_true (by first | (with_reducible assumption) | assumption)
             obtain ⟨ad323, A323_5, c323_5, e323, hx323_0, hx323_1, hx323_2, hx323_3, hx323_4, hx323_5, hx323_6, hx323_7, hx323_8, hl323_5, hi323_5⟩ := at_T45 HR0.out x5_1 p323 q323
             obtain rfl : ad318 = ad323 := (by injection e323)
             have HR323_5 := Aside0.mk hi323_5
             have HC323_5 := Aside0.mk hl323_5
             clear hi323_5 hl323_5
             replace p323 := eq_true p323
             replace q323 := eq_true q323
             have ea_ := Option.some.inj (hx318_5.symm.trans hx323_5)
             injection ea_ with ea_ en_ ec_
             (first | subst ea_ | clear ea_)
             (first | subst ec_ | clear ec_)
             clear en_
             go_wp2_with (first | ((with_reducible refine gate_callee (f := 22) rfl ?_); refine goesL_ (some 68) rfl rfl Try.func22 KR rfl #[.slice A318_5 ((rd_T45 l0 x5_1).f2.f1).length c318_5, .int .i64 (wrap64 ((wrap64 ((wrap64 ((wrap64 ((wrap64 (x1_1 + 1)) + 1)) + 1)) + 1)) + 1))] rfl AR ?_; (with_reducible refine (laws_heldIntS.calls k1 _ _ ((rd_T45 l0 x5_1).f2.f1) (wrap64 ((wrap64 ((wrap64 ((wrap64 ((wrap64 (x1_1 + 1)) + 1)) + 1)) + 1)) + 1)) t324 _ ?side1 ?side2 A10.out).mono ?_); (case side1 => exact CR (HR323_5.out)); (case side2 => exact HC323_5.out); rintro e w' ⟨rfl, ⟨nd, rfl⟩⟩; refine ⟨_, rfl, ?_⟩; have p325 : 0 ≤ (x5_1 : Int) := of_decide_eq_true (by first | (with_reducible assumption) | assumption); have q325 : x5_1 < (l0.length : Int) := of_decide_eq_true (by first | (with_reducible assumption) | assumption); obtain ⟨ad325, A325_5, c325_5, e325, hx325_0, hx325_1, hx325_2, hx325_3, hx325_4, hx325_5, hx325_6, hx325_7, hx325_8, hl325_5, hi325_5⟩ := at_T45 HR0.out x5_1 p325 q325; obtain rfl : ad318 = ad325 := (by injection e325); have HR325_5 := Aside0.mk hi325_5; have HC325_5 := Aside0.mk hl325_5; clear hi325_5 hl325_5; replace p325 := eq_true p325; replace q325 := eq_true q325; have ea_ := Option.some.inj (hx318_5.symm.trans hx325_5); injection ea_ with ea_ en_ ec_; subst ea_; subst ec_; clear en_; have p326 : 0 ≤ (x5_1 : Int) := of_decide_eq_true (by first | (with_reducible assumption) | assumption); have q326 : x5_1 < (l0.length : Int) := of_decide_eq_true (by first | (with_reducible assumption) | assumption); obtain ⟨ad326, A326_5, c326_5, e326, hx326_0, hx326_1, hx326_2, hx326_3, hx326_4, hx326_5, hx326_6, hx326_7, hx326_8, hl326_5, hi326_5⟩ := at_T45 HR0.out x5_1 p326 q326; obtain rfl : ad318 = ad326 := (by injection e326); have HR326_5 := Aside0.mk hi326_5; have HC326_5 := Aside0.mk hl326_5; clear hi326_5 hl326_5; replace p326 := eq_true p326; replace q326 := eq_true q326; have ea_ := Option.some.inj (hx318_5.symm.trans hx326_5); injection ea_ with ea_ en_ ec_; subst ea_; subst ec_; clear en_))
             go_ret
             exact ⟨by first | rfl | (simp; done) | (simp [*]; done), by repeat (first | exact Drawn0.refl _ | apply Drawn0.step)⟩
           ·rw [if_neg c12] at H
            have c12b0 : (((rd_T45 l0 x5_1).f2.f2.f0) == t324) = false := beq_eq_false_iff_ne.mpr c12
            have c12b1 : (((rd_T45 l0 x5_1).f2.f2.f0) != t324) = true := bne_iff_ne.mpr c12
            obtain rfl := Option.some.inj H
            have p318 : 0 ≤ (x5_1 : Int) := of_decide_eq_true (by first | (with_reducible assumption) | assumption)
            have q318 : x5_1 < (l0.length : Int) := of_decide_eq_true (by first | (with_reducible assumption) | assumption)
            obtain ⟨ad318, A318_5, c318_5, e318, hx318_0, hx318_1, hx318_2, hx318_3, hx318_4, hx318_5, hx318_6, hx318_7, hx318_8, hl318_5, hi318_5⟩ := at_T45 HR0.out x5_1 p318 q318
            cases e318
            have HR318_5 := Aside0.mk hi318_5
            have HC318_5 := Aside0.mk hl318_5
            clear hi318_5 hl318_5
            replace p318 := eq_true p318
            replace q318 := eq_true q318
            have p319 : 0 ≤ (x5_1 : Int) := of_decide_eq_true (by first | (with_reducible assumption) | assumption)
            have q319 : x5_1 < (l0.length : Int) := of_decide_eq_true (by first | (with_reducible assumption) | assumption)
            obtain ⟨ad319, A319_5, c319_5, e319, hx319_0, hx319_1, hx319_2, hx319_3, hx319_4, hx319_5, hx319_6, hx319_7, hx319_8, hl319_5, hi319_5⟩ := at_T45 HR0.out x5_1 p319 q319
            obtain rfl : ad318 = ad319 := (by injection e319)
            have HR319_5 := Aside0.mk hi319_5
            have HC319_5 := Aside0.mk hl319_5
            clear hi319_5 hl319_5
            replace p319 := eq_true p319
            replace q319 := eq_true q319
            have ea_ := Option.some.inj (hx318_5.symm.trans hx319_5)
            injection ea_ with ea_ en_ ec_
            (first | subst ea_ | clear ea_)
            (first | subst ec_ | clear ec_)
            clear en_
            have p320 : 0 ≤ (x5_1 : Int) := of_decide_eq_true (by first | (with_reducible assumption) | assumption)
            have q320 : x5_1 < (l0.length : Int) := of_decide_eq_true (by first | (with_reducible assumption) | assumption)
            obtain ⟨ad320, A320_5, c320_5, e320, hx320_0, hx320_1, hx320_2, hx320_3, hx320_4, hx320_5, hx320_6, hx320_7, hx320_8, hl320_5, hi320_5⟩ := at_T45 HR0.out x5_1 p320 q320
            obtain rfl : ad318 = ad320 := (by injection e320)
            have HR320_5 := Aside0.mk hi320_5
            have HC320_5 := Aside0.mk hl320_5
            clear hi320_5 hl320_5
            replace p320 := eq_true p320
            replace q320 := eq_true q320
            have ea_ := Option.some.inj (hx318_5.symm.trans hx320_5)
            injection ea_ with ea_ en_ ec_
            (first | subst ea_ | clear ea_)
            (first | subst ec_ | clear ec_)
            clear en_
            have p321 : 0 ≤ (x5_1 : Int) := of_decide_eq_true (by first | (with_reducible assumption) | assumption)
            have q321 : x5_1 < (l0.length : Int) := of_decide_eq_true (by first | (with_reducible assumption) | assumption)
            obtain ⟨ad321, A321_5, c321_5, e321, hx321_0, hx321_1, hx321_2, hx321_3, hx321_4, hx321_5, hx321_6, hx321_7, hx321_8, hl321_5, hi321_5⟩ := at_T45 HR0.out x5_1 p321 q321
            obtain rfl : ad318 = ad321 := (by injection e321)
            have HR321_5 := Aside0.mk hi321_5
            have HC321_5 := Aside0.mk hl321_5
            clear hi321_5 hl321_5
            replace p321 := eq_true p321
            replace q321 := eq_true q321
            have ea_ := Option.some.inj (hx318_5.symm.trans hx321_5)
            injection ea_ with ea_ en_ ec_
            (first | subst ea_ | clear ea_)
            (first | subst ec_ | clear ec_)
            clear en_
            have p322 : 0 ≤ (x5_1 : Int) := of_decide_eq_true (by first | (with_reducible assumption) | assumption)
            have q322 : x5_1 < (l0.length : Int) := of_decide_eq_true (by first | (with_reducible assumption) | assumption)
            obtain ⟨ad322, A322_5, c322_5, e322, hx322_0, hx322_1, hx322_2, hx322_3, hx322_4, hx322_5, hx322_6, hx322_7, hx322_8, hl322_5, hi322_5⟩ := at_T45 HR0.out x5_1 p322 q322
            obtain rfl : ad318 = ad322 := (by injection e322)
            have HR322_5 := Aside0.mk hi322_5
            have HC322_5 := Aside0.mk hl322_5
            clear hi322_5 hl322_5
            replace p322 := eq_true p322
            replace q322 := eq_true q322
            have ea_ := Option.some.inj (hx318_5.symm.trans hx322_5)
            injection ea_ with ea_ en_ ec_
            (first | subst ea_ | clear ea_)
            (first | subst ec_ | clear ec_)
            clear en_
            have p323 : 0 ≤ (x5_1 : Int) := of_decide_eq_true (by first | (with_reducible assumption) | assumption)
            have q323 : x5_1 < (l0.length : Int) := of_decide_eq_true (by first | (with_reducible assumption) | assumption)
            obtain ⟨ad323, A323_5, c323_5, e323, hx323_0, hx323_1, hx323_2, hx323_3, hx323_4, hx323_5, hx323_6, hx323_7, hx323_8, hl323_5, hi323_5⟩ := at_T45 HR0.out x5_1 p323 q323
            obtain rfl : ad318 = ad323 := (by injection e323)
            have HR323_5 := Aside0.mk hi323_5
            have HC323_5 := Aside0.mk hl323_5
            clear hi323_5 hl323_5
            replace p323 := eq_true p323
            replace q323 := eq_true q323
            have ea_ := Option.some.inj (hx318_5.symm.trans hx323_5)
            injection ea_ with ea_ en_ ec_
            (first | subst ea_ | clear ea_)
            (first | subst ec_ | clear ec_)
            clear en_
            go_wp2_with (first | ((with_reducible refine gate_callee (f := 22) rfl ?_); refine goesL_ (some 68) rfl rfl Try.func22 KR rfl #[.slice A318_5 ((rd_T45 l0 x5_1).f2.f1).length c318_5, .int .i64 (wrap64 ((wrap64 ((wrap64 ((wrap64 ((wrap64 (x1_1 + 1)) + 1)) + 1)) + 1)) + 1))] rfl AR ?_; (with_reducible refine (laws_heldIntS.calls k1 _ _ ((rd_T45 l0 x5_1).f2.f1) (wrap64 ((wrap64 ((wrap64 ((wrap64 ((wrap64 (x1_1 + 1)) + 1)) + 1)) + 1)) + 1)) t324 _ ?side1 ?side2 A10.out).mono ?_); (case side1 => exact CR (HR323_5.out)); (case side2 => exact HC323_5.out); rintro e w' ⟨rfl, ⟨nd, rfl⟩⟩; refine ⟨_, rfl, ?_⟩; have p325 : 0 ≤ (x5_1 : Int) := of_decide_eq_true (by first | (with_reducible assumption) | assumption); have q325 : x5_1 < (l0.length : Int) := of_decide_eq_true (by first | (with_reducible assumption) | assumption); obtain ⟨ad325, A325_5, c325_5, e325, hx325_0, hx325_1, hx325_2, hx325_3, hx325_4, hx325_5, hx325_6, hx325_7, hx325_8, hl325_5, hi325_5⟩ := at_T45 HR0.out x5_1 p325 q325; obtain rfl : ad318 = ad325 := (by injection e325); have HR325_5 := Aside0.mk hi325_5; have HC325_5 := Aside0.mk hl325_5; clear hi325_5 hl325_5; replace p325 := eq_true p325; replace q325 := eq_true q325; have ea_ := Option.some.inj (hx318_5.symm.trans hx325_5); injection ea_ with ea_ en_ ec_; subst ea_; subst ec_; clear en_))
            go_ret
            exact ⟨by first | rfl | (simp; done) | (simp [*]; done), by repeat (first | exact Drawn0.refl _ | apply Drawn0.step)⟩
         ·rw [if_neg c9] at H
          have c9b0 : (((rd_T45 l0 x5_1).f2.f0) == (wrap64 ((wrap64 ((wrap64 ((wrap64 (x1_1 + 1)) + 1)) + 1)) + 1))) = false := beq_eq_false_iff_ne.mpr c9
          have c9b1 : (((rd_T45 l0 x5_1).f2.f0) != (wrap64 ((wrap64 ((wrap64 ((wrap64 (x1_1 + 1)) + 1)) + 1)) + 1))) = true := bne_iff_ne.mpr c9
          obtain rfl := Option.some.inj H
          have p318 : 0 ≤ (x5_1 : Int) := of_decide_eq_true (by first | (with_reducible assumption) | assumption)
          have q318 : x5_1 < (l0.length : Int) := of_decide_eq_true (by first | (with_reducible assumption) | assumption)
          obtain ⟨ad318, A318_5, c318_5, e318, hx318_0, hx318_1, hx318_2, hx318_3, hx318_4, hx318_5, hx318_6, hx318_7, hx318_8, hl318_5, hi318_5⟩ := at_T45 HR0.out x5_1 p318 q318
          cases e318
          have HR318_5 := Aside0.mk hi318_5
          have HC318_5 := Aside0.mk hl318_5
          clear hi318_5 hl318_5
          replace p318 := eq_true p318
          replace q318 := eq_true q318
          have p319 : 0 ≤ (x5_1 : Int) := of_decide_eq_true (by first | (with_reducible assumption) | assumption)
          have q319 : x5_1 < (l0.length : Int) := of_decide_eq_true (by first | (with_reducible assumption) | assumption)
          obtain ⟨ad319, A319_5, c319_5, e319, hx319_0, hx319_1, hx319_2, hx319_3, hx319_4, hx319_5, hx319_6, hx319_7, hx319_8, hl319_5, hi319_5⟩ := at_T45 HR0.out x5_1 p319 q319
          obtain rfl : ad318 = ad319 := (by injection e319)
          have HR319_5 := Aside0.mk hi319_5
          have HC319_5 := Aside0.mk hl319_5
          clear hi319_5 hl319_5
          replace p319 := eq_true p319
          replace q319 := eq_true q319
          have ea_ := Option.some.inj (hx318_5.symm.trans hx319_5)
          injection ea_ with ea_ en_ ec_
          (first | subst ea_ | clear ea_)
          (first | subst ec_ | clear ec_)
          clear en_
          have p320 : 0 ≤ (x5_1 : Int) := of_decide_eq_true (by first | (with_reducible assumption) | assumption)
          have q320 : x5_1 < (l0.length : Int) := of_decide_eq_true (by first | (with_reducible assumption) | assumption)
          obtain ⟨ad320, A320_5, c320_5, e320, hx320_0, hx320_1, hx320_2, hx320_3, hx320_4, hx320_5, hx320_6, hx320_7, hx320_8, hl320_5, hi320_5⟩ := at_T45 HR0.out x5_1 p320 q320
          obtain rfl : ad318 = ad320 := (by injection e320)
          have HR320_5 := Aside0.mk hi320_5
          have HC320_5 := Aside0.mk hl320_5
          clear hi320_5 hl320_5
          replace p320 := eq_true p320
          replace q320 := eq_true q320
          have ea_ := Option.some.inj (hx318_5.symm.trans hx320_5)
          injection ea_ with ea_ en_ ec_
          (first | subst ea_ | clear ea_)
          (first | subst ec_ | clear ec_)
          clear en_
          have p321 : 0 ≤ (x5_1 : Int) := of_decide_eq_true (by first | (with_reducible assumption) | assumption)
          have q321 : x5_1 < (l0.length : Int) := of_decide_eq_true (by first | (with_reducible assumption) | assumption)
          obtain ⟨ad321, A321_5, c321_5, e321, hx321_0, hx321_1, hx321_2, hx321_3, hx321_4, hx321_5, hx321_6, hx321_7, hx321_8, hl321_5, hi321_5⟩ := at_T45 HR0.out x5_1 p321 q321
          obtain rfl : ad318 = ad321 := (by injection e321)
          have HR321_5 := Aside0.mk hi321_5
          have HC321_5 := Aside0.mk hl321_5
          clear hi321_5 hl321_5
          replace p321 := eq_true p321
          replace q321 := eq_true q321
          have ea_ := Option.some.inj (hx318_5.symm.trans hx321_5)
          injection ea_ with ea_ en_ ec_
          (first | subst ea_ | clear ea_)
          (first | subst ec_ | clear ec_)
          clear en_
          have p322 : 0 ≤ (x5_1 : Int) := of_decide_eq_true (by first | (with_reducible assumption) | assumption)
          have q322 : x5_1 < (l0.length : Int) := of_decide_eq_true (by first | (with_reducible assumption) | assumption)
          obtain ⟨ad322, A322_5, c322_5, e322, hx322_0, hx322_1, hx322_2, hx322_3, hx322_4, hx322_5, hx322_6, hx322_7, hx322_8, hl322_5, hi322_5⟩ := at_T45 HR0.out x5_1 p322 q322
          obtain rfl : ad318 = ad322 := (by injection e322)
          have HR322_5 := Aside0.mk hi322_5
          have HC322_5 := Aside0.mk hl322_5
          clear hi322_5 hl322_5
          replace p322 := eq_true p322
          replace q322 := eq_true q322
          have ea_ := Option.some.inj (hx318_5.symm.trans hx322_5)
          injection ea_ with ea_ en_ ec_
          (first | subst ea_ | clear ea_)
          (first | subst ec_ | clear ec_)
          clear en_
          go_wp2
          go_ret
          exact ⟨by first | rfl | (simp; done) | (simp [*]; done), by repeat (first | exact Drawn0.refl _ | apply Drawn0.step)⟩
        ·rw [if_neg c8] at H
         have c8b0 : (((rd_T45 l0 x5_1).f1) == (wrap64 ((wrap64 ((wrap64 (x1_1 + 1)) + 1)) + 1))) = false := beq_eq_false_iff_ne.mpr c8
         have c8b1 : (((rd_T45 l0 x5_1).f1) != (wrap64 ((wrap64 ((wrap64 (x1_1 + 1)) + 1)) + 1))) = true := bne_iff_ne.mpr c8
         obtain rfl := Option.some.inj H
         have p318 : 0 ≤ (x5_1 : Int) := of_decide_eq_true (by first | (with_reducible assumption) | assumption)
         have q318 : x5_1 < (l0.length : Int) := of_decide_eq_true (by first | (with_reducible assumption) | assumption)
         obtain ⟨ad318, A318_5, c318_5, e318, hx318_0, hx318_1, hx318_2, hx318_3, hx318_4, hx318_5, hx318_6, hx318_7, hx318_8, hl318_5, hi318_5⟩ := at_T45 HR0.out x5_1 p318 q318
         cases e318
         have HR318_5 := Aside0.mk hi318_5
         have HC318_5 := Aside0.mk hl318_5
         clear hi318_5 hl318_5
         replace p318 := eq_true p318
         replace q318 := eq_true q318
         have p319 : 0 ≤ (x5_1 : Int) := of_decide_eq_true (by first | (with_reducible assumption) | assumption)
         have q319 : x5_1 < (l0.length : Int) := of_decide_eq_true (by first | (with_reducible assumption) | assumption)
         obtain ⟨ad319, A319_5, c319_5, e319, hx319_0, hx319_1, hx319_2, hx319_3, hx319_4, hx319_5, hx319_6, hx319_7, hx319_8, hl319_5, hi319_5⟩ := at_T45 HR0.out x5_1 p319 q319
         obtain rfl : ad318 = ad319 := (by injection e319)
         have HR319_5 := Aside0.mk hi319_5
         have HC319_5 := Aside0.mk hl319_5
         clear hi319_5 hl319_5
         replace p319 := eq_true p319
         replace q319 := eq_true q319
         have ea_ := Option.some.inj (hx318_5.symm.trans hx319_5)
         injection ea_ with ea_ en_ ec_
         (first | subst ea_ | clear ea_)
         (first | subst ec_ | clear ec_)
         clear en_
         have p320 : 0 ≤ (x5_1 : Int) := of_decide_eq_true (by first | (with_reducible assumption) | assumption)
         have q320 : x5_1 < (l0.length : Int) := of_decide_eq_true (by first | (with_reducible assumption) | assumption)
         obtain ⟨ad320, A320_5, c320_5, e320, hx320_0, hx320_1, hx320_2, hx320_3, hx320_4, hx320_5, hx320_6, hx320_7, hx320_8, hl320_5, hi320_5⟩ := at_T45 HR0.out x5_1 p320 q320
         obtain rfl : ad318 = ad320 := (by injection e320)
         have HR320_5 := Aside0.mk hi320_5
         have HC320_5 := Aside0.mk hl320_5
         clear hi320_5 hl320_5
         replace p320 := eq_true p320
         replace q320 := eq_true q320
         have ea_ := Option.some.inj (hx318_5.symm.trans hx320_5)
         injection ea_ with ea_ en_ ec_
         (first | subst ea_ | clear ea_)
         (first | subst ec_ | clear ec_)
         clear en_
         have p321 : 0 ≤ (x5_1 : Int) := of_decide_eq_true (by first | (with_reducible assumption) | assumption)
         have q321 : x5_1 < (l0.length : Int) := of_decide_eq_true (by first | (with_reducible assumption) | assumption)
         obtain ⟨ad321, A321_5, c321_5, e321, hx321_0, hx321_1, hx321_2, hx321_3, hx321_4, hx321_5, hx321_6, hx321_7, hx321_8, hl321_5, hi321_5⟩ := at_T45 HR0.out x5_1 p321 q321
         obtain rfl : ad318 = ad321 := (by injection e321)
         have HR321_5 := Aside0.mk hi321_5
         have HC321_5 := Aside0.mk hl321_5
         clear hi321_5 hl321_5
         replace p321 := eq_true p321
         replace q321 := eq_true q321
         have ea_ := Option.some.inj (hx318_5.symm.trans hx321_5)
         injection ea_ with ea_ en_ ec_
         (first | subst ea_ | clear ea_)
         (first | subst ec_ | clear ec_)
         clear en_
         go_wp2
         go_ret
         exact ⟨by first | rfl | (simp; done) | (simp [*]; done), by repeat (first | exact Drawn0.refl _ | apply Drawn0.step)⟩
       ·rw [if_neg c7] at H
        have c7b0 : (((rd_T45 l0 x5_1).f0.f2) == (wrap64 ((wrap64 (x1_1 + 1)) + 1))) = false := beq_eq_false_iff_ne.mpr c7
        have c7b1 : (((rd_T45 l0 x5_1).f0.f2) != (wrap64 ((wrap64 (x1_1 + 1)) + 1))) = true := bne_iff_ne.mpr c7
        obtain rfl := Option.some.inj H
        have p318 : 0 ≤ (x5_1 : Int) := of_decide_eq_true (by first | (with_reducible assumption) | assumption)
        have q318 : x5_1 < (l0.length : Int) := of_decide_eq_true (by first | (with_reducible assumption) | assumption)
        obtain ⟨ad318, A318_5, c318_5, e318, hx318_0, hx318_1, hx318_2, hx318_3, hx318_4, hx318_5, hx318_6, hx318_7, hx318_8, hl318_5, hi318_5⟩ := at_T45 HR0.out x5_1 p318 q318
        cases e318
        have HR318_5 := Aside0.mk hi318_5
        have HC318_5 := Aside0.mk hl318_5
        clear hi318_5 hl318_5
        replace p318 := eq_true p318
        replace q318 := eq_true q318
        have p319 : 0 ≤ (x5_1 : Int) := of_decide_eq_true (by first | (with_reducible assumption) | assumption)
        have q319 : x5_1 < (l0.length : Int) := of_decide_eq_true (by first | (with_reducible assumption) | assumption)
        obtain ⟨ad319, A319_5, c319_5, e319, hx319_0, hx319_1, hx319_2, hx319_3, hx319_4, hx319_5, hx319_6, hx319_7, hx319_8, hl319_5, hi319_5⟩ := at_T45 HR0.out x5_1 p319 q319
        obtain rfl : ad318 = ad319 := (by injection e319)
        have HR319_5 := Aside0.mk hi319_5
        have HC319_5 := Aside0.mk hl319_5
        clear hi319_5 hl319_5
        replace p319 := eq_true p319
        replace q319 := eq_true q319
        have ea_ := Option.some.inj (hx318_5.symm.trans hx319_5)
        injection ea_ with ea_ en_ ec_
        (first | subst ea_ | clear ea_)
        (first | subst ec_ | clear ec_)
        clear en_
        have p320 : 0 ≤ (x5_1 : Int) := of_decide_eq_true (by first | (with_reducible assumption) | assumption)
        have q320 : x5_1 < (l0.length : Int) := of_decide_eq_true (by first | (with_reducible assumption) | assumption)
        obtain ⟨ad320, A320_5, c320_5, e320, hx320_0, hx320_1, hx320_2, hx320_3, hx320_4, hx320_5, hx320_6, hx320_7, hx320_8, hl320_5, hi320_5⟩ := at_T45 HR0.out x5_1 p320 q320
        obtain rfl : ad318 = ad320 := (by injection e320)
        have HR320_5 := Aside0.mk hi320_5
        have HC320_5 := Aside0.mk hl320_5
        clear hi320_5 hl320_5
        replace p320 := eq_true p320
        replace q320 := eq_true q320
        have ea_ := Option.some.inj (hx318_5.symm.trans hx320_5)
        injection ea_ with ea_ en_ ec_
        (first | subst ea_ | clear ea_)
        (first | subst ec_ | clear ec_)
        clear en_
        go_wp2
        go_ret
        exact ⟨by first | rfl | (simp; done) | (simp [*]; done), by repeat (first | exact Drawn0.refl _ | apply Drawn0.step)⟩
      ·rw [if_neg c6] at H
       have c6b0 : (((rd_T45 l0 x5_1).f0.f1) == (wrap64 (x1_1 + 1))) = false := beq_eq_false_iff_ne.mpr c6
       have c6b1 : (((rd_T45 l0 x5_1).f0.f1) != (wrap64 (x1_1 + 1))) = true := bne_iff_ne.mpr c6
       obtain rfl := Option.some.inj H
       have p318 : 0 ≤ (x5_1 : Int) := of_decide_eq_true (by first | (with_reducible assumption) | assumption)
       have q318 : x5_1 < (l0.length : Int) := of_decide_eq_true (by first | (with_reducible assumption) | assumption)
       obtain ⟨ad318, A318_5, c318_5, e318, hx318_0, hx318_1, hx318_2, hx318_3, hx318_4, hx318_5, hx318_6, hx318_7, hx318_8, hl318_5, hi318_5⟩ := at_T45 HR0.out x5_1 p318 q318
       cases e318
       have HR318_5 := Aside0.mk hi318_5
       have HC318_5 := Aside0.mk hl318_5
       clear hi318_5 hl318_5
       replace p318 := eq_true p318
       replace q318 := eq_true q318
       have p319 : 0 ≤ (x5_1 : Int) := of_decide_eq_true (by first | (with_reducible assumption) | assumption)
       have q319 : x5_1 < (l0.length : Int) := of_decide_eq_true (by first | (with_reducible assumption) | assumption)
       obtain ⟨ad319, A319_5, c319_5, e319, hx319_0, hx319_1, hx319_2, hx319_3, hx319_4, hx319_5, hx319_6, hx319_7, hx319_8, hl319_5, hi319_5⟩ := at_T45 HR0.out x5_1 p319 q319
       obtain rfl : ad318 = ad319 := (by injection e319)
       have HR319_5 := Aside0.mk hi319_5
       have HC319_5 := Aside0.mk hl319_5
       clear hi319_5 hl319_5
       replace p319 := eq_true p319
       replace q319 := eq_true q319
       have ea_ := Option.some.inj (hx318_5.symm.trans hx319_5)
       injection ea_ with ea_ en_ ec_
       (first | subst ea_ | clear ea_)
       (first | subst ec_ | clear ec_)
       clear en_
       go_wp2
       go_ret
       exact ⟨by first | rfl | (simp; done) | (simp [*]; done), by repeat (first | exact Drawn0.refl _ | apply Drawn0.step)⟩
     ·rw [if_neg c5] at H
      have c5b0 : (((rd_T45 l0 x5_1).f0.f0) == x1_1) = false := beq_eq_false_iff_ne.mpr c5
      have c5b1 : (((rd_T45 l0 x5_1).f0.f0) != x1_1) = true := bne_iff_ne.mpr c5
      obtain rfl := Option.some.inj H
      have p318 : 0 ≤ (x5_1 : Int) := of_decide_eq_true (by first | (with_reducible assumption) | assumption)
      have q318 : x5_1 < (l0.length : Int) := of_decide_eq_true (by first | (with_reducible assumption) | assumption)
      obtain ⟨ad318, A318_5, c318_5, e318, hx318_0, hx318_1, hx318_2, hx318_3, hx318_4, hx318_5, hx318_6, hx318_7, hx318_8, hl318_5, hi318_5⟩ := at_T45 HR0.out x5_1 p318 q318
      cases e318
      have HR318_5 := Aside0.mk hi318_5
      have HC318_5 := Aside0.mk hl318_5
      clear hi318_5 hl318_5
      replace p318 := eq_true p318
      replace q318 := eq_true q318
      go_wp2
      go_ret
      exact ⟨by first | rfl | (simp; done) | (simp [*]; done), by repeat (first | exact Drawn0.refl _ | apply Drawn0.step)⟩
    ·rw [if_neg c4] at H
     exact absurd H (by simp)
   ·rw [if_neg c3] at H
    have c3b0 : decide (x5_1 < (l0.length : Int)) = false := decide_eq_false c3
    clear c3
    obtain rfl := Option.some.inj H
    go_wp2
    go_ret
    exact ⟨by first | rfl | (simp; done) | (simp [*]; done), by repeat (first | exact Drawn0.refl _ | apply Drawn0.step)⟩

-- NOT PRINTED: function 3 (laws_FnExactAddCaptures)

end Go.Proofs.Ytmcfdpodoebokaa.MFnExactAddCaptures
