-- Written by a program of this session out of the translation's own print. Not trusted: Lean checks it.
import Derived.Test.YtgcamebeonodeaaShr2
import Derived.Test.YtgcamebeonodeaaMFnFormsx0
import Derived.Test.YtgcamebeonodeaaMFnFormsx3
import Derived.Test.YtgcamebeonodeaaMFnFormsx4
import Derived.Test.YtgcamebeonodeaaMFnFormsx9
import Derived.Test.YtgcamebeonodeaaMFnFormsx11
namespace Go.Proofs.Ytgcamebeonodeaa.MFnForms
open Go.RowKit Go.Proofs.YtgcamebeonodeaaW.PrintWords Go.Proofs.YtgcamebeonodeaaW.PrintLast Go.Proofs.YtgcamebeonodeaaW.PrintMore
attribute [local go_sem] max2_int min2_int max_two min_two max_three min_three max_four min_four   -- for this text's walks alone
set_option linter.unusedVariables false
set_option linter.unusedSimpArgs false

/-! ### impl_CountFits: function 56 -/
def impl_CountFits.l0 : Nat → Int → List (S40) → Int → Int → Int → Int → Int → Bool → Int → Int → Int → Option (Int)
  | 0, _, _, _, _, _, _, _, _, _, _, _ => none
  | k + 1, x7, x10, x11, x12, x443000, x443001, x443002, x443003, x444000, x444001, x444002 => if x12 < x11 then (if 0 ≤ x12 then (if x12 < (x10.length : Int) then ((impl_sameForm.f ((rd_T40 x10 x12).f0.f0) ((rd_T40 x10 x12).f0.f1) ((rd_T40 x10 x12).f0.f2) ((rd_T40 x10 x12).f1) ((rd_T40 x10 x12).f2.f0) ((rd_T40 x10 x12).f2.f1) ((rd_T40 x10 x12).f2.f2.f0) ((rd_T40 x10 x12).f2.f2.f1) ((rd_T40 x10 x12).f2.f2.f2) x444000 x444001 x444002).bind fun t446 => (if t446 = true then ((impl_FitsForm.f k x443000 x443001 x443002 x443003 ((rd_T40 x10 x12).f0.f0) ((rd_T40 x10 x12).f0.f1) ((rd_T40 x10 x12).f0.f2) ((rd_T40 x10 x12).f1) ((rd_T40 x10 x12).f2.f0) ((rd_T40 x10 x12).f2.f1) ((rd_T40 x10 x12).f2.f2.f0) ((rd_T40 x10 x12).f2.f2.f1) ((rd_T40 x10 x12).f2.f2.f2)).bind fun t447 => (if t447 = true then (impl_CountFits.l0 k (wrap64 (x7 + 1)) x10 x11 (wrap64 (x12 + 1)) x443000 x443001 x443002 x443003 x444000 x444001 x444002) else (impl_CountFits.l0 k x7 x10 x11 (wrap64 (x12 + 1)) x443000 x443001 x443002 x443003 x444000 x444001 x444002))) else (impl_CountFits.l0 k x7 x10 x11 (wrap64 (x12 + 1)) x443000 x443001 x443002 x443003 x444000 x444001 x444002))) else (none)) else (none)) else (some x7)
def impl_CountFits.f (k : Nat) (a0_0 : Int) (a0_1 : Int) (a0_2 : Int) (a0_3 : Bool) (l1 : List (S40)) (a2_0 : Int) (a2_1 : Int) (a2_2 : Int) : Option (Int) := impl_CountFits.l0 k 0 l1 (l1.length : Int) 0 a0_0 a0_1 a0_2 a0_3 a2_0 a2_1 a2_2
set_option maxHeartbeats 8000000 in
set_option maxRecDepth 100000 in
theorem impl_CountFits.calls (k : Nat) (a0_0 : Int) (a0_1 : Int) (a0_2 : Int) (a0_3 : Bool) (A1 : Option Addr) (c1 : Nat) (l1 : List (S40)) (a2_0 : Int) (a2_1 : Int) (a2_2 : Int) (r : Int) (w : World) (hr1 : Kd.C k40 w A1 l1.length l1) (hc1 : l1.length ≤ c1) (h : impl_CountFits.f k a0_0 a0_1 a0_2 a0_3 l1 a2_0 a2_1 a2_2 = some r) :
  Calls Try.prog 56 #[.agg #[.int .i64 a0_0, .int .i64 a0_1, .int .i64 a0_2, .bool a0_3], .slice A1 l1.length c1, .agg #[.int .i64 a2_0, .int .i64 a2_1, .int .i64 a2_2]] w fun e w' => e = .returned (.int .i64 r) ∧ Below w.heap.size w w' := by
 have hu85 := Try.underlying85
 have hu26 := Try.underlying26
 have hu40 := Try.underlying40
 have HR1 := Aside0.mk hr1
 have HC1 := Aside0.mk hc1
 clear hr1 hc1
 have HB := ak (Below.refl w.heap.size w)
 have H : (impl_CountFits.l0 k 0 l1 (l1.length : Int) 0 a0_0 a0_1 a0_2 a0_3 a2_0 a2_1 a2_2) = some r := h
 clear h
 have H' := Aside0.mk H
 clear H
 go_enter Try.func56, Try.ntmps56
 go_wp2_with (first | ((with_reducible refine gate_dst (N := 3) rfl ?_); refine bx_ (N := 3) #[.int .i64 a0_0, .int .i64 a0_1, .int .i64 a0_2, .bool a0_3] 85 ?_; intro gb442 hg w4 hbox hb; have BK442 := ak hbox; have GW442 := gy hg HB; have GE442 := gy hg HB; replace HB := bs HB hb; clear hb hbox hg) | ((with_reducible refine gate_dst (N := 5) rfl ?_); refine bx_ (N := 5) #[.int .i64 a2_0, .int .i64 a2_1, .int .i64 a2_2] 26 ?_; intro gb443 hg w5 hbox hb; have BK443 := ak hbox; have GW443 := gy hg HB; have GE443 := gy hg HB; replace HB := bs HB hb; have NB442_443 := gm hg BK442; have NB443_442 := gn hg BK442; replace BK442 := kf BK442 hb; clear hb hbox hg))
 go_loopg [7, 12] k (fun kq v7 v12 w' => ∃ (x7_1 : Int) (x12_1 : Int), v7 = .int .i64 x7_1 ∧ v12 = .int .i64 x12_1 ∧ Aside0 (impl_CountFits.l0 kq x7_1 l1 (l1.length : Int) x12_1 a0_0 a0_1 a0_2 a0_3 a2_0 a2_1 a2_2 = some r) ∧ Aside0 (kq ≤ k) ∧ Aside0 (w'.heap[gb442]? = some (.cells #[.int .i64 a0_0, .int .i64 a0_1, .int .i64 a0_2, .bool a0_3] 85 (0, 0))) ∧ Aside0 (w'.heap[gb443]? = some (.cells #[.int .i64 a2_0, .int .i64 a2_1, .int .i64 a2_2] 26 (0, 0))) ∧ Aside0 (Below w.heap.size w w'))
 case atStart => exact ⟨(0), (0), (by first | rfl | (simp; done) | (simp [*]; done)), (by first | rfl | (simp; done) | (simp [*]; done)), H', ⟨Nat.le_refl _⟩, ⟨PK BK442⟩, ⟨PK BK443⟩, ⟨PB⟩⟩
 case round =>
  clear H'
  (try clear c1); (try clear p2); (try clear c5)
  obtain ⟨x7_1, x12_1, rfl, rfl, HA, HK1, BK442, BK443, HB⟩ := hrel
  cases gk with
  | zero => exact absurd HA.out (by simp [impl_CountFits.l0])
  | succ k1 =>
   have H := HA.out
   clear HA
   simp only [impl_CountFits.l0] at H
   by_cases c6 : x12_1 < (l1.length : Int)
   ·rw [if_pos c6] at H
    have c6b0 : decide (x12_1 < (l1.length : Int)) = true := decide_eq_true c6
    clear c6
    by_cases c7 : 0 ≤ x12_1
    ·rw [if_pos c7] at H
     have c7b0 : decide (0 ≤ x12_1) = true := decide_eq_true c7
     clear c7
     by_cases c8 : x12_1 < (l1.length : Int)
     ·rw [if_pos c8] at H
      have c8b0 : decide (x12_1 < (l1.length : Int)) = true := decide_eq_true c8
      clear c8
      replace H := Option.bind_eq_some_iff.mp H
      obtain ⟨t446, A90, H⟩ := H
      replace H : (if t446 = true then ((impl_FitsForm.f k1 a0_0 a0_1 a0_2 a0_3 ((rd_T40 l1 x12_1).f0.f0) ((rd_T40 l1 x12_1).f0.f1) ((rd_T40 l1 x12_1).f0.f2) ((rd_T40 l1 x12_1).f1) ((rd_T40 l1 x12_1).f2.f0) ((rd_T40 l1 x12_1).f2.f1) ((rd_T40 l1 x12_1).f2.f2.f0) ((rd_T40 l1 x12_1).f2.f2.f1) ((rd_T40 l1 x12_1).f2.f2.f2)).bind fun t447 => (if t447 = true then (impl_CountFits.l0 k1 (wrap64 (x7_1 + 1)) l1 (l1.length : Int) (wrap64 (x12_1 + 1)) a0_0 a0_1 a0_2 a0_3 a2_0 a2_1 a2_2) else (impl_CountFits.l0 k1 x7_1 l1 (l1.length : Int) (wrap64 (x12_1 + 1)) a0_0 a0_1 a0_2 a0_3 a2_0 a2_1 a2_2))) else (impl_CountFits.l0 k1 x7_1 l1 (l1.length : Int) (wrap64 (x12_1 + 1)) a0_0 a0_1 a0_2 a0_3 a2_0 a2_1 a2_2)) = some r := H
      have A9 := Aside0.mk A90
      clear A90
      by_cases c10 : t446 = true
      ·subst c10
       have H1 : ((impl_FitsForm.f k1 a0_0 a0_1 a0_2 a0_3 ((rd_T40 l1 x12_1).f0.f0) ((rd_T40 l1 x12_1).f0.f1) ((rd_T40 l1 x12_1).f0.f2) ((rd_T40 l1 x12_1).f1) ((rd_T40 l1 x12_1).f2.f0) ((rd_T40 l1 x12_1).f2.f1) ((rd_T40 l1 x12_1).f2.f2.f0) ((rd_T40 l1 x12_1).f2.f2.f1) ((rd_T40 l1 x12_1).f2.f2.f2)).bind fun t447 => (if t447 = true then (impl_CountFits.l0 k1 (wrap64 (x7_1 + 1)) l1 (l1.length : Int) (wrap64 (x12_1 + 1)) a0_0 a0_1 a0_2 a0_3 a2_0 a2_1 a2_2) else (impl_CountFits.l0 k1 x7_1 l1 (l1.length : Int) (wrap64 (x12_1 + 1)) a0_0 a0_1 a0_2 a0_3 a2_0 a2_1 a2_2))) = some r := by rw [if_pos rfl] at H; exact H
       clear H
       have H := H1
       clear H1
       replace H := Option.bind_eq_some_iff.mp H
       obtain ⟨t447, A110, H⟩ := H
       replace H : (if t447 = true then (impl_CountFits.l0 k1 (wrap64 (x7_1 + 1)) l1 (l1.length : Int) (wrap64 (x12_1 + 1)) a0_0 a0_1 a0_2 a0_3 a2_0 a2_1 a2_2) else (impl_CountFits.l0 k1 x7_1 l1 (l1.length : Int) (wrap64 (x12_1 + 1)) a0_0 a0_1 a0_2 a0_3 a2_0 a2_1 a2_2)) = some r := H
       have A11 := Aside0.mk A110
       clear A110
       by_cases c12 : t447 = true
       ·subst c12
        have H1 : (impl_CountFits.l0 k1 (wrap64 (x7_1 + 1)) l1 (l1.length : Int) (wrap64 (x12_1 + 1)) a0_0 a0_1 a0_2 a0_3 a2_0 a2_1 a2_2) = some r := by rw [if_pos rfl] at H; exact H
        clear H
        have H := H1
        clear H1
        have H' := Aside0.mk H
        clear H
        have p444 : 0 ≤ (x12_1 : Int) := of_decide_eq_true (by first | (with_reducible assumption) | assumption)
        have q444 : x12_1 < (l1.length : Int) := of_decide_eq_true (by first | (with_reducible assumption) | assumption)
        obtain ⟨ad444, A444_5, c444_5, e444, hx444_0, hx444_1, hx444_2, hx444_3, hx444_4, hx444_5, hx444_6, hx444_7, hx444_8, hl444_5, hi444_5⟩ := at_T40 HR1.out x12_1 p444 q444
        cases e444
        replace hx444_0 := hx_ HB hx444_0
        replace hx444_1 := hx_ HB hx444_1
        replace hx444_2 := hx_ HB hx444_2
        replace hx444_3 := hx_ HB hx444_3
        replace hx444_4 := hx_ HB hx444_4
        replace hx444_5 := hx_ HB hx444_5
        replace hx444_6 := hx_ HB hx444_6
        replace hx444_7 := hx_ HB hx444_7
        replace hx444_8 := hx_ HB hx444_8
        have HR444_5 := Aside0.mk hi444_5
        have HC444_5 := Aside0.mk hl444_5
        clear hi444_5 hl444_5
        replace p444 := eq_true p444
        replace q444 := eq_true q444
        go_wp2_with (first | ((with_reducible refine gate_dst (N := 9) rfl ?_); refine bx_ (N := 9) #[.int .i64 0, .int .i64 0, .int .i64 0, .int .i64 0, .int .i64 0, .slice none 0 0, .int .i64 0, .int .i64 0, .int .i64 0] 40 ?_; intro gb445 hg w13 hbox hb; have BK445 := ak hbox; have GW445 := gy hg HB; have GE445 := gy hg HB; replace HB := bs HB hb; have NB442_445 := gm hg BK442; have NB445_442 := gn hg BK442; replace BK442 := kf BK442 hb; have NB443_445 := gm hg BK443; have NB445_443 := gn hg BK443; replace BK443 := kf BK443 hb; clear hb hbox hg; have hnb14 := NB445_442.out; have hnc14 := NB442_445.out; have hnb15 := NB445_443.out; have hnc15 := NB443_445.out; obtain ⟨hcz16_0, hcz16_1, hcz16_2, hcz16_3, hcz16_4, _, _, _, _, hfz16_0, hfz16_1, hfz16_2, hfz16_3, hfz16_4, _, _, _, _⟩ := bc9 BK445; have hnb17 := NB443_442.out; have hnc17 := NB442_443.out; obtain ⟨hcz18_0, hcz18_1, hcz18_2, hfz18_0, hfz18_1, hfz18_2⟩ := bc3 BK443) | ((with_reducible refine gate_callee (f := 115) rfl ?_); refine goesL_ (some 18) rfl rfl Try.func115 KR rfl #[.agg #[.int .i64 ((rd_T40 l1 x12_1).f0.f0), .int .i64 ((rd_T40 l1 x12_1).f0.f1), .int .i64 ((rd_T40 l1 x12_1).f0.f2), .int .i64 ((rd_T40 l1 x12_1).f1), .int .i64 ((rd_T40 l1 x12_1).f2.f0), .slice A444_5 ((rd_T40 l1 x12_1).f2.f1).length c444_5, .int .i64 ((rd_T40 l1 x12_1).f2.f2.f0), .int .i64 ((rd_T40 l1 x12_1).f2.f2.f1), .int .i64 ((rd_T40 l1 x12_1).f2.f2.f2)], .agg #[.int .i64 a2_0, .int .i64 a2_1, .int .i64 a2_2]] rfl AR ?_; (with_reducible refine (impl_sameForm.calls ((rd_T40 l1 x12_1).f0.f0) ((rd_T40 l1 x12_1).f0.f1) ((rd_T40 l1 x12_1).f0.f2) ((rd_T40 l1 x12_1).f1) ((rd_T40 l1 x12_1).f2.f0) _ _ ((rd_T40 l1 x12_1).f2.f1) ((rd_T40 l1 x12_1).f2.f2.f0) ((rd_T40 l1 x12_1).f2.f2.f1) ((rd_T40 l1 x12_1).f2.f2.f2) a2_0 a2_1 a2_2 true _ ?side1 ?side2 A9.out).mono ?_); (case side1 => exact Kd.C_below HR444_5.out PB); (case side2 => exact HC444_5.out); rintro e w19 ⟨rfl, hb⟩; refine ⟨_, rfl, ?_⟩; replace BK442 := kf BK442 hb; replace BK443 := kf BK443 hb; replace BK445 := kp (cs' := #[.int .i64 ((rd_T40 l1 x12_1).f0.f0), .int .i64 ((rd_T40 l1 x12_1).f0.f1), .int .i64 ((rd_T40 l1 x12_1).f0.f2), .int .i64 ((rd_T40 l1 x12_1).f1), .int .i64 ((rd_T40 l1 x12_1).f2.f0), .slice A444_5 ((rd_T40 l1 x12_1).f2.f1).length c444_5, .int .i64 ((rd_T40 l1 x12_1).f2.f2.f0), .int .i64 ((rd_T40 l1 x12_1).f2.f2.f1), .int .i64 ((rd_T40 l1 x12_1).f2.f2.f2)]) BK445 hb; replace HB := bs HB hb; (try clear hb); (try clear hb2); (try clear hk); (try clear hi); obtain ⟨hcz20_0, hcz20_1, hcz20_2, hcz20_3, hfz20_0, hfz20_1, hfz20_2, hfz20_3⟩ := bc4 BK442; obtain ⟨_, _, _, _, _, _, _, _, _, _, _, _, _, _, _, _, _, _⟩ := bc9 BK445) | (go_at_call 59; (with_reducible refine (impl_FitsForm.calls k1 a0_0 a0_1 a0_2 a0_3 ((rd_T40 l1 x12_1).f0.f0) ((rd_T40 l1 x12_1).f0.f1) ((rd_T40 l1 x12_1).f0.f2) ((rd_T40 l1 x12_1).f1) ((rd_T40 l1 x12_1).f2.f0) _ _ ((rd_T40 l1 x12_1).f2.f1) ((rd_T40 l1 x12_1).f2.f2.f0) ((rd_T40 l1 x12_1).f2.f2.f1) ((rd_T40 l1 x12_1).f2.f2.f2) true _ ?side1 ?side2 A11.out).mono ?_); (case side1 => exact CR (Kd.C_below HR444_5.out HB.out)); (case side2 => exact HC444_5.out); rintro e w22 ⟨rfl, hb⟩; replace BK442 := kf BK442 hb; replace BK443 := kf BK443 hb; replace BK445 := kf BK445 hb; replace HB := bs HB hb; (try clear hb); (try clear hb2); (try clear hk); (try clear hi)))
        go_roundg k1
        case measure => have := HK1.out; omega
        case rel => exact ⟨(wrap64 (x7_1 + 1)), (wrap64 (x12_1 + 1)), (by first | rfl | (simp; done) | (simp [*]; done)), (by first | rfl | (simp; done) | (simp [*]; done)), H', ⟨by have := HK1.out; omega⟩, ⟨PK BK442⟩, ⟨PK BK443⟩, ⟨PB⟩⟩
       ·replace c12 := Bool.eq_false_iff.mpr c12
        subst c12
        have H1 : (impl_CountFits.l0 k1 x7_1 l1 (l1.length : Int) (wrap64 (x12_1 + 1)) a0_0 a0_1 a0_2 a0_3 a2_0 a2_1 a2_2) = some r := by rw [if_neg (show ¬ (false = true) by decide)] at H; exact H
        clear H
        have H := H1
        clear H1
        have H' := Aside0.mk H
        clear H
        have p444 : 0 ≤ (x12_1 : Int) := of_decide_eq_true (by first | (with_reducible assumption) | assumption)
        have q444 : x12_1 < (l1.length : Int) := of_decide_eq_true (by first | (with_reducible assumption) | assumption)
        obtain ⟨ad444, A444_5, c444_5, e444, hx444_0, hx444_1, hx444_2, hx444_3, hx444_4, hx444_5, hx444_6, hx444_7, hx444_8, hl444_5, hi444_5⟩ := at_T40 HR1.out x12_1 p444 q444
        cases e444
        replace hx444_0 := hx_ HB hx444_0
        replace hx444_1 := hx_ HB hx444_1
        replace hx444_2 := hx_ HB hx444_2
        replace hx444_3 := hx_ HB hx444_3
        replace hx444_4 := hx_ HB hx444_4
        replace hx444_5 := hx_ HB hx444_5
        replace hx444_6 := hx_ HB hx444_6
        replace hx444_7 := hx_ HB hx444_7
        replace hx444_8 := hx_ HB hx444_8
        have HR444_5 := Aside0.mk hi444_5
        have HC444_5 := Aside0.mk hl444_5
        clear hi444_5 hl444_5
        replace p444 := eq_true p444
        replace q444 := eq_true q444
        go_wp2_with (first | ((with_reducible refine gate_dst (N := 9) rfl ?_); refine bx_ (N := 9) #[.int .i64 0, .int .i64 0, .int .i64 0, .int .i64 0, .int .i64 0, .slice none 0 0, .int .i64 0, .int .i64 0, .int .i64 0] 40 ?_; intro gb445 hg w23 hbox hb; have BK445 := ak hbox; have GW445 := gy hg HB; have GE445 := gy hg HB; replace HB := bs HB hb; have NB442_445 := gm hg BK442; have NB445_442 := gn hg BK442; replace BK442 := kf BK442 hb; have NB443_445 := gm hg BK443; have NB445_443 := gn hg BK443; replace BK443 := kf BK443 hb; clear hb hbox hg; have hnb24 := NB445_442.out; have hnc24 := NB442_445.out; have hnb25 := NB445_443.out; have hnc25 := NB443_445.out; obtain ⟨_, _, _, _, _, _, _, _, _, _, _, _, _, _, _, _, _, _⟩ := bc9 BK445; have hnb27 := NB443_442.out; have hnc27 := NB442_443.out; obtain ⟨_, _, _, _, _, _⟩ := bc3 BK443) | ((with_reducible refine gate_callee (f := 115) rfl ?_); refine goesL_ (some 18) rfl rfl Try.func115 KR rfl #[.agg #[.int .i64 ((rd_T40 l1 x12_1).f0.f0), .int .i64 ((rd_T40 l1 x12_1).f0.f1), .int .i64 ((rd_T40 l1 x12_1).f0.f2), .int .i64 ((rd_T40 l1 x12_1).f1), .int .i64 ((rd_T40 l1 x12_1).f2.f0), .slice A444_5 ((rd_T40 l1 x12_1).f2.f1).length c444_5, .int .i64 ((rd_T40 l1 x12_1).f2.f2.f0), .int .i64 ((rd_T40 l1 x12_1).f2.f2.f1), .int .i64 ((rd_T40 l1 x12_1).f2.f2.f2)], .agg #[.int .i64 a2_0, .int .i64 a2_1, .int .i64 a2_2]] rfl AR ?_; (with_reducible refine (impl_sameForm.calls ((rd_T40 l1 x12_1).f0.f0) ((rd_T40 l1 x12_1).f0.f1) ((rd_T40 l1 x12_1).f0.f2) ((rd_T40 l1 x12_1).f1) ((rd_T40 l1 x12_1).f2.f0) _ _ ((rd_T40 l1 x12_1).f2.f1) ((rd_T40 l1 x12_1).f2.f2.f0) ((rd_T40 l1 x12_1).f2.f2.f1) ((rd_T40 l1 x12_1).f2.f2.f2) a2_0 a2_1 a2_2 true _ ?side1 ?side2 A9.out).mono ?_); (case side1 => exact Kd.C_below HR444_5.out PB); (case side2 => exact HC444_5.out); rintro e w29 ⟨rfl, hb⟩; refine ⟨_, rfl, ?_⟩; replace BK442 := kf BK442 hb; replace BK443 := kf BK443 hb; replace BK445 := kp (cs' := #[.int .i64 ((rd_T40 l1 x12_1).f0.f0), .int .i64 ((rd_T40 l1 x12_1).f0.f1), .int .i64 ((rd_T40 l1 x12_1).f0.f2), .int .i64 ((rd_T40 l1 x12_1).f1), .int .i64 ((rd_T40 l1 x12_1).f2.f0), .slice A444_5 ((rd_T40 l1 x12_1).f2.f1).length c444_5, .int .i64 ((rd_T40 l1 x12_1).f2.f2.f0), .int .i64 ((rd_T40 l1 x12_1).f2.f2.f1), .int .i64 ((rd_T40 l1 x12_1).f2.f2.f2)]) BK445 hb; replace HB := bs HB hb; (try clear hb); (try clear hb2); (try clear hk); (try clear hi); obtain ⟨_, _, _, _, _, _, _, _⟩ := bc4 BK442; obtain ⟨_, _, _, _, _, _, _, _, _, _, _, _, _, _, _, _, _, _⟩ := bc9 BK445) | (go_at_call 59; (with_reducible refine (impl_FitsForm.calls k1 a0_0 a0_1 a0_2 a0_3 ((rd_T40 l1 x12_1).f0.f0) ((rd_T40 l1 x12_1).f0.f1) ((rd_T40 l1 x12_1).f0.f2) ((rd_T40 l1 x12_1).f1) ((rd_T40 l1 x12_1).f2.f0) _ _ ((rd_T40 l1 x12_1).f2.f1) ((rd_T40 l1 x12_1).f2.f2.f0) ((rd_T40 l1 x12_1).f2.f2.f1) ((rd_T40 l1 x12_1).f2.f2.f2) false _ ?side1 ?side2 A11.out).mono ?_); (case side1 => exact CR (Kd.C_below HR444_5.out HB.out)); (case side2 => exact HC444_5.out); rintro e w32 ⟨rfl, hb⟩; replace BK442 := kf BK442 hb; replace BK443 := kf BK443 hb; replace BK445 := kf BK445 hb; replace HB := bs HB hb; (try clear hb); (try clear hb2); (try clear hk); (try clear hi)))
        go_roundg k1
        case measure => have := HK1.out; omega
        case rel => exact ⟨(x7_1), (wrap64 (x12_1 + 1)), (by first | rfl | (simp; done) | (simp [*]; done)), (by first | rfl | (simp; done) | (simp [*]; done)), H', ⟨by have := HK1.out; omega⟩, ⟨PK BK442⟩, ⟨PK BK443⟩, ⟨PB⟩⟩
      ·replace c10 := Bool.eq_false_iff.mpr c10
       subst c10
       have H1 : (impl_CountFits.l0 k1 x7_1 l1 (l1.length : Int) (wrap64 (x12_1 + 1)) a0_0 a0_1 a0_2 a0_3 a2_0 a2_1 a2_2) = some r := by rw [if_neg (show ¬ (false = true) by decide)] at H; exact H
       clear H
       have H := H1
       clear H1
       have H' := Aside0.mk H
       clear H
       have p444 : 0 ≤ (x12_1 : Int) := of_decide_eq_true (by first | (with_reducible assumption) | assumption)
       have q444 : x12_1 < (l1.length : Int) := of_decide_eq_true (by first | (with_reducible assumption) | assumption)
       obtain ⟨ad444, A444_5, c444_5, e444, hx444_0, hx444_1, hx444_2, hx444_3, hx444_4, hx444_5, hx444_6, hx444_7, hx444_8, hl444_5, hi444_5⟩ := at_T40 HR1.out x12_1 p444 q444
       cases e444
       replace hx444_0 := hx_ HB hx444_0
       replace hx444_1 := hx_ HB hx444_1
       replace hx444_2 := hx_ HB hx444_2
       replace hx444_3 := hx_ HB hx444_3
       replace hx444_4 := hx_ HB hx444_4
       replace hx444_5 := hx_ HB hx444_5
       replace hx444_6 := hx_ HB hx444_6
       replace hx444_7 := hx_ HB hx444_7
       replace hx444_8 := hx_ HB hx444_8
       have HR444_5 := Aside0.mk hi444_5
       have HC444_5 := Aside0.mk hl444_5
       clear hi444_5 hl444_5
       replace p444 := eq_true p444
       replace q444 := eq_true q444
       go_wp2_with (first | ((with_reducible refine gate_dst (N := 9) rfl ?_); refine bx_ (N := 9) #[.int .i64 0, .int .i64 0, .int .i64 0, .int .i64 0, .int .i64 0, .slice none 0 0, .int .i64 0, .int .i64 0, .int .i64 0] 40 ?_; intro gb445 hg w33 hbox hb; have BK445 := ak hbox; have GW445 := gy hg HB; have GE445 := gy hg HB; replace HB := bs HB hb; have NB442_445 := gm hg BK442; have NB445_442 := gn hg BK442; replace BK442 := kf BK442 hb; have NB443_445 := gm hg BK443; have NB445_443 := gn hg BK443; replace BK443 := kf BK443 hb; clear hb hbox hg; have hnb34 := NB445_442.out; have hnc34 := NB442_445.out; have hnb35 := NB445_443.out; have hnc35 := NB443_445.out; obtain ⟨_, _, _, _, _, _, _, _, _, _, _, _, _, _, _, _, _, _⟩ := bc9 BK445; have hnb37 := NB443_442.out; have hnc37 := NB442_443.out; obtain ⟨_, _, _, _, _, _⟩ := bc3 BK443) | ((with_reducible refine gate_callee (f := 115) rfl ?_); refine goesL_ (some 18) rfl rfl Try.func115 KR rfl #[.agg #[.int .i64 ((rd_T40 l1 x12_1).f0.f0), .int .i64 ((rd_T40 l1 x12_1).f0.f1), .int .i64 ((rd_T40 l1 x12_1).f0.f2), .int .i64 ((rd_T40 l1 x12_1).f1), .int .i64 ((rd_T40 l1 x12_1).f2.f0), .slice A444_5 ((rd_T40 l1 x12_1).f2.f1).length c444_5, .int .i64 ((rd_T40 l1 x12_1).f2.f2.f0), .int .i64 ((rd_T40 l1 x12_1).f2.f2.f1), .int .i64 ((rd_T40 l1 x12_1).f2.f2.f2)], .agg #[.int .i64 a2_0, .int .i64 a2_1, .int .i64 a2_2]] rfl AR ?_; (with_reducible refine (impl_sameForm.calls ((rd_T40 l1 x12_1).f0.f0) ((rd_T40 l1 x12_1).f0.f1) ((rd_T40 l1 x12_1).f0.f2) ((rd_T40 l1 x12_1).f1) ((rd_T40 l1 x12_1).f2.f0) _ _ ((rd_T40 l1 x12_1).f2.f1) ((rd_T40 l1 x12_1).f2.f2.f0) ((rd_T40 l1 x12_1).f2.f2.f1) ((rd_T40 l1 x12_1).f2.f2.f2) a2_0 a2_1 a2_2 false _ ?side1 ?side2 A9.out).mono ?_); (case side1 => exact Kd.C_below HR444_5.out PB); (case side2 => exact HC444_5.out); rintro e w39 ⟨rfl, hb⟩; refine ⟨_, rfl, ?_⟩; replace BK442 := kf BK442 hb; replace BK443 := kf BK443 hb; replace BK445 := kp (cs' := #[.int .i64 ((rd_T40 l1 x12_1).f0.f0), .int .i64 ((rd_T40 l1 x12_1).f0.f1), .int .i64 ((rd_T40 l1 x12_1).f0.f2), .int .i64 ((rd_T40 l1 x12_1).f1), .int .i64 ((rd_T40 l1 x12_1).f2.f0), .slice A444_5 ((rd_T40 l1 x12_1).f2.f1).length c444_5, .int .i64 ((rd_T40 l1 x12_1).f2.f2.f0), .int .i64 ((rd_T40 l1 x12_1).f2.f2.f1), .int .i64 ((rd_T40 l1 x12_1).f2.f2.f2)]) BK445 hb; replace HB := bs HB hb; (try clear hb); (try clear hb2); (try clear hk); (try clear hi)))
       go_roundg k1
       case measure => have := HK1.out; omega
       case rel => exact ⟨(x7_1), (wrap64 (x12_1 + 1)), (by first | rfl | (simp; done) | (simp [*]; done)), (by first | rfl | (simp; done) | (simp [*]; done)), H', ⟨by have := HK1.out; omega⟩, ⟨PK BK442⟩, ⟨PK BK443⟩, ⟨PB⟩⟩
     ·rw [if_neg c8] at H
      exact absurd H (by simp)
    ·rw [if_neg c7] at H
     exact absurd H (by simp)
   ·rw [if_neg c6] at H
    have c6b0 : decide (x12_1 < (l1.length : Int)) = false := decide_eq_false c6
    clear c6
    obtain rfl := Option.some.inj H
    go_wp2
    go_ret
    exact ⟨RT, PB⟩

/-! ### impl_WithoutQuery: function 57 -/
def impl_WithoutQuery.f (a0_0 : Int) (a0_1 : Int) (a0_2 : Int) : Option (Int × Int × Int) := some (a0_0, a0_1, 0)
set_option maxHeartbeats 8000000 in
set_option maxRecDepth 100000 in
theorem impl_WithoutQuery.calls (a0_0 : Int) (a0_1 : Int) (a0_2 : Int) (r1 : Int) (r2 : Int) (r3 : Int) (w : World) (h : impl_WithoutQuery.f a0_0 a0_1 a0_2 = some (r1, r2, r3)) :
  Calls Try.prog 57 #[.agg #[.int .i64 a0_0, .int .i64 a0_1, .int .i64 a0_2]] w fun e w' => e = .returned (.agg #[.int .i64 r1, .int .i64 r2, .int .i64 r3]) ∧ Below w.heap.size w w' := by
 have hu26 := Try.underlying26
 have HB := ak (Below.refl w.heap.size w)
 have H : (some (a0_0, a0_1, 0)) = some (r1, r2, r3) := h
 clear h
 simp only [Option.some.injEq, Prod.mk.injEq] at H
 obtain ⟨rfl, rfl, rfl⟩ := H
 go_enter Try.func57, Try.ntmps57
 go_wp2_with (first | ((with_reducible refine gate_dst (N := 1) rfl ?_); refine bx_ (N := 1) #[.int .i64 a0_0, .int .i64 a0_1, .int .i64 a0_2] 26 ?_; intro gb448 hg w2 hbox hb; have BK448 := ak hbox; have GW448 := gy hg HB; have GE448 := gy hg HB; replace HB := bs HB hb; clear hb hbox hg) | ((with_reducible refine gate_dst (N := 2) rfl ?_); refine bx_ (N := 2) #[.int .i64 0, .int .i64 0, .int .i64 0] 26 ?_; intro gb449 hg w3 hbox hb; have BK449 := ak hbox; have GW449 := gy hg HB; have GE449 := gy hg HB; replace HB := bs HB hb; have NB448_449 := gm hg BK448; have NB449_448 := gn hg BK448; replace BK448 := kf BK448 hb; clear hb hbox hg; have hnb4 := NB448_449.out; have hnc4 := NB449_448.out; obtain ⟨hcz5_0, hcz5_1, hcz5_2, hfz5_0, hfz5_1, hfz5_2⟩ := bc3 BK448; obtain ⟨hcz6_0, hcz6_1, hcz6_2, hfz6_0, hfz6_1, hfz6_2⟩ := bc3 BK449))
 refine bodyPost_ret (results_cell_row rfl _ _ gb449 26 #[.int .i64 a0_0, .int .i64 a0_1, .int .i64 0] (0, 0) _ rfl (PX BK449) Try.underlying26 rfl KR) rfl ?_
 exact ⟨RT, PB⟩

/-! ### impl_GuessForm: function 58 -/
def impl_GuessForm.f (a0_0 : Int) (a0_1 : Int) (a0_2 : Int) (a0_3 : Bool) (a1 : Int) : Option (Int × Bool) := if a0_2 < 2 then (some (0, false)) else (if a0_3 = true then ((impl_InRange.f a0_0 0 999).bind fun t451 => (if t451 = true then ((impl_InRange.f a0_1 0 999).bind fun t452 => (if t452 = true then ((impl_InRange.f a1 0 99).bind fun t453 => (if t453 = true then ((impl_Model_says.f a0_0 a0_1 a0_2 a0_3 a1).bind fun t454 => (some (t454, true))) else (some (0, false)))) else (some (0, false)))) else (some (0, false)))) else (some (0, false)))
set_option maxHeartbeats 8000000 in
set_option maxRecDepth 100000 in
theorem impl_GuessForm.calls (a0_0 : Int) (a0_1 : Int) (a0_2 : Int) (a0_3 : Bool) (a1 : Int) (r1 : Int) (r2 : Bool) (w : World) (h : impl_GuessForm.f a0_0 a0_1 a0_2 a0_3 a1 = some (r1, r2)) :
  Calls Try.prog 58 #[.agg #[.int .i64 a0_0, .int .i64 a0_1, .int .i64 a0_2, .bool a0_3], .int .i64 a1] w fun e w' => e = .returned (.tuple #[.int .i64 r1, .bool r2]) ∧ Below w.heap.size w w' := by
 have hu85 := Try.underlying85
 have HB := ak (Below.refl w.heap.size w)
 have H : (if a0_2 < 2 then (some (0, false)) else (if a0_3 = true then ((impl_InRange.f a0_0 0 999).bind fun t451 => (if t451 = true then ((impl_InRange.f a0_1 0 999).bind fun t452 => (if t452 = true then ((impl_InRange.f a1 0 99).bind fun t453 => (if t453 = true then ((impl_Model_says.f a0_0 a0_1 a0_2 a0_3 a1).bind fun t454 => (some (t454, true))) else (some (0, false)))) else (some (0, false)))) else (some (0, false)))) else (some (0, false)))) = some (r1, r2) := h
 clear h
 by_cases c3 : a0_2 < 2
 ·rw [if_pos c3] at H
  have c3b0 : decide (a0_2 < 2) = true := decide_eq_true c3
  clear c3
  simp only [Option.some.injEq, Prod.mk.injEq] at H
  obtain ⟨rfl, rfl⟩ := H
  go_enter Try.func58, Try.ntmps58
  go_wp2_with (first | ((with_reducible refine gate_dst (N := 2) rfl ?_); refine bx_ (N := 2) #[.int .i64 a0_0, .int .i64 a0_1, .int .i64 a0_2, .bool a0_3] 85 ?_; intro gb450 hg w4 hbox hb; have BK450 := ak hbox; have GW450 := gy hg HB; have GE450 := gy hg HB; replace HB := bs HB hb; clear hb hbox hg; obtain ⟨hcz5_0, hcz5_1, hcz5_2, hcz5_3, hfz5_0, hfz5_1, hfz5_2, hfz5_3⟩ := bc4 BK450))
  go_ret2
  exact ⟨RT, PB⟩
 ·rw [if_neg c3] at H
  have c3b0 : decide (a0_2 < 2) = false := decide_eq_false c3
  clear c3
  by_cases c6 : a0_3 = true
  ·subst c6
   have H1 : ((impl_InRange.f a0_0 0 999).bind fun t451 => (if t451 = true then ((impl_InRange.f a0_1 0 999).bind fun t452 => (if t452 = true then ((impl_InRange.f a1 0 99).bind fun t453 => (if t453 = true then ((impl_Model_says.f a0_0 a0_1 a0_2 true a1).bind fun t454 => (some (t454, true))) else (some (0, false)))) else (some (0, false)))) else (some (0, false)))) = some (r1, r2) := by rw [if_pos rfl] at H; exact H
   clear H
   have H := H1
   clear H1
   replace H := Option.bind_eq_some_iff.mp H
   obtain ⟨t451, A70, H⟩ := H
   replace H : (if t451 = true then ((impl_InRange.f a0_1 0 999).bind fun t452 => (if t452 = true then ((impl_InRange.f a1 0 99).bind fun t453 => (if t453 = true then ((impl_Model_says.f a0_0 a0_1 a0_2 true a1).bind fun t454 => (some (t454, true))) else (some (0, false)))) else (some (0, false)))) else (some (0, false))) = some (r1, r2) := H
   have A7 := Aside0.mk A70
   clear A70
   by_cases c8 : t451 = true
   ·subst c8
    have H1 : ((impl_InRange.f a0_1 0 999).bind fun t452 => (if t452 = true then ((impl_InRange.f a1 0 99).bind fun t453 => (if t453 = true then ((impl_Model_says.f a0_0 a0_1 a0_2 true a1).bind fun t454 => (some (t454, true))) else (some (0, false)))) else (some (0, false)))) = some (r1, r2) := by rw [if_pos rfl] at H; exact H
    clear H
    have H := H1
    clear H1
    replace H := Option.bind_eq_some_iff.mp H
    obtain ⟨t452, A90, H⟩ := H
    replace H : (if t452 = true then ((impl_InRange.f a1 0 99).bind fun t453 => (if t453 = true then ((impl_Model_says.f a0_0 a0_1 a0_2 true a1).bind fun t454 => (some (t454, true))) else (some (0, false)))) else (some (0, false))) = some (r1, r2) := H
    have A9 := Aside0.mk A90
    clear A90
    by_cases c10 : t452 = true
    ·subst c10
     have H1 : ((impl_InRange.f a1 0 99).bind fun t453 => (if t453 = true then ((impl_Model_says.f a0_0 a0_1 a0_2 true a1).bind fun t454 => (some (t454, true))) else (some (0, false)))) = some (r1, r2) := by rw [if_pos rfl] at H; exact H
     clear H
     have H := H1
     clear H1
     replace H := Option.bind_eq_some_iff.mp H
     obtain ⟨t453, A110, H⟩ := H
     replace H : (if t453 = true then ((impl_Model_says.f a0_0 a0_1 a0_2 true a1).bind fun t454 => (some (t454, true))) else (some (0, false))) = some (r1, r2) := H
     have A11 := Aside0.mk A110
     clear A110
     by_cases c12 : t453 = true
     ·subst c12
      have H1 : ((impl_Model_says.f a0_0 a0_1 a0_2 true a1).bind fun t454 => (some (t454, true))) = some (r1, r2) := by rw [if_pos rfl] at H; exact H
      clear H
      have H := H1
      clear H1
      replace H := Option.bind_eq_some_iff.mp H
      obtain ⟨t454, A130, H⟩ := H
      replace H : (some (t454, true)) = some (r1, r2) := H
      have A13 := Aside0.mk A130
      clear A130
      simp only [Option.some.injEq, Prod.mk.injEq] at H
      obtain ⟨rfl, rfl⟩ := H
      go_enter Try.func58, Try.ntmps58
      go_wp2_with (first | ((with_reducible refine gate_dst (N := 2) rfl ?_); refine bx_ (N := 2) #[.int .i64 a0_0, .int .i64 a0_1, .int .i64 a0_2, .bool true] 85 ?_; intro gb450 hg w14 hbox hb; have BK450 := ak hbox; have GW450 := gy hg HB; have GE450 := gy hg HB; replace HB := bs HB hb; clear hb hbox hg; obtain ⟨_, _, _, _, _, _, _, _⟩ := bc4 BK450) | (go_at_call 69; (with_reducible refine (impl_InRange.calls a0_0 0 999 true _ A7.out).mono ?_); rintro e w' ⟨rfl, ⟨nd, rfl⟩⟩) | (go_at_call 69; (with_reducible refine (impl_InRange.calls a0_1 0 999 true _ A9.out).mono ?_); rintro e w' ⟨rfl, ⟨nd, rfl⟩⟩) | (go_at_call 69; (with_reducible refine (impl_InRange.calls a1 0 99 true _ A11.out).mono ?_); rintro e w' ⟨rfl, ⟨nd, rfl⟩⟩) | ((with_reducible refine gate_callee (f := 116) rfl ?_); refine goesL_ (some 33) rfl rfl Try.func116 KR rfl #[.agg #[.int .i64 a0_0, .int .i64 a0_1, .int .i64 a0_2, .bool true], .int .i64 a1] rfl AR ?_; (with_reducible refine (impl_Model_says.calls a0_0 a0_1 a0_2 true a1 t454 _ A13.out).mono ?_); rintro e w16 ⟨rfl, hb⟩; refine ⟨_, rfl, ?_⟩; replace BK450 := kf BK450 hb; replace HB := bs HB hb; (try clear hb); (try clear hb2); (try clear hk); (try clear hi)))
      go_ret2
      exact ⟨RT, PB⟩
     ·replace c12 := Bool.eq_false_iff.mpr c12
      subst c12
      have H1 : (some (0, false)) = some (r1, r2) := by rw [if_neg (show ¬ (false = true) by decide)] at H; exact H
      clear H
      have H := H1
      clear H1
      simp only [Option.some.injEq, Prod.mk.injEq] at H
      obtain ⟨rfl, rfl⟩ := H
      go_enter Try.func58, Try.ntmps58
      go_wp2_with (first | ((with_reducible refine gate_dst (N := 2) rfl ?_); refine bx_ (N := 2) #[.int .i64 a0_0, .int .i64 a0_1, .int .i64 a0_2, .bool true] 85 ?_; intro gb450 hg w17 hbox hb; have BK450 := ak hbox; have GW450 := gy hg HB; have GE450 := gy hg HB; replace HB := bs HB hb; clear hb hbox hg; obtain ⟨hcz18_0, hcz18_1, hcz18_2, _, hfz18_0, hfz18_1, hfz18_2, _⟩ := bc4 BK450) | (go_at_call 69; (with_reducible refine (impl_InRange.calls a0_0 0 999 true _ A7.out).mono ?_); rintro e w' ⟨rfl, ⟨nd, rfl⟩⟩) | (go_at_call 69; (with_reducible refine (impl_InRange.calls a0_1 0 999 true _ A9.out).mono ?_); rintro e w' ⟨rfl, ⟨nd, rfl⟩⟩) | (go_at_call 69; (with_reducible refine (impl_InRange.calls a1 0 99 false _ A11.out).mono ?_); rintro e w' ⟨rfl, ⟨nd, rfl⟩⟩))
      go_ret2
      exact ⟨RT, PB⟩
    ·replace c10 := Bool.eq_false_iff.mpr c10
     subst c10
     have H1 : (some (0, false)) = some (r1, r2) := by rw [if_neg (show ¬ (false = true) by decide)] at H; exact H
     clear H
     have H := H1
     clear H1
     simp only [Option.some.injEq, Prod.mk.injEq] at H
     obtain ⟨rfl, rfl⟩ := H
     go_enter Try.func58, Try.ntmps58
     go_wp2_with (first | ((with_reducible refine gate_dst (N := 2) rfl ?_); refine bx_ (N := 2) #[.int .i64 a0_0, .int .i64 a0_1, .int .i64 a0_2, .bool true] 85 ?_; intro gb450 hg w19 hbox hb; have BK450 := ak hbox; have GW450 := gy hg HB; have GE450 := gy hg HB; replace HB := bs HB hb; clear hb hbox hg; obtain ⟨hcz20_0, hcz20_1, hcz20_2, hcz20_3, hfz20_0, hfz20_1, hfz20_2, hfz20_3⟩ := bc4 BK450) | (go_at_call 69; (with_reducible refine (impl_InRange.calls a0_0 0 999 true _ A7.out).mono ?_); rintro e w' ⟨rfl, ⟨nd, rfl⟩⟩) | (go_at_call 69; (with_reducible refine (impl_InRange.calls a0_1 0 999 false _ A9.out).mono ?_); rintro e w' ⟨rfl, ⟨nd, rfl⟩⟩))
     go_ret2
     exact ⟨RT, PB⟩
   ·replace c8 := Bool.eq_false_iff.mpr c8
    subst c8
    have H1 : (some (0, false)) = some (r1, r2) := by rw [if_neg (show ¬ (false = true) by decide)] at H; exact H
    clear H
    have H := H1
    clear H1
    simp only [Option.some.injEq, Prod.mk.injEq] at H
    obtain ⟨rfl, rfl⟩ := H
    go_enter Try.func58, Try.ntmps58
    go_wp2_with (first | ((with_reducible refine gate_dst (N := 2) rfl ?_); refine bx_ (N := 2) #[.int .i64 a0_0, .int .i64 a0_1, .int .i64 a0_2, .bool true] 85 ?_; intro gb450 hg w21 hbox hb; have BK450 := ak hbox; have GW450 := gy hg HB; have GE450 := gy hg HB; replace HB := bs HB hb; clear hb hbox hg; obtain ⟨_, _, _, _, _, _, _, _⟩ := bc4 BK450) | (go_at_call 69; (with_reducible refine (impl_InRange.calls a0_0 0 999 false _ A7.out).mono ?_); rintro e w' ⟨rfl, ⟨nd, rfl⟩⟩))
    go_ret2
    exact ⟨RT, PB⟩
  ·replace c6 := Bool.eq_false_iff.mpr c6
   subst c6
   have H1 : (some (0, false)) = some (r1, r2) := by rw [if_neg (show ¬ (false = true) by decide)] at H; exact H
   clear H
   have H := H1
   clear H1
   simp only [Option.some.injEq, Prod.mk.injEq] at H
   obtain ⟨rfl, rfl⟩ := H
   go_enter Try.func58, Try.ntmps58
   go_wp2_with (first | ((with_reducible refine gate_dst (N := 2) rfl ?_); refine bx_ (N := 2) #[.int .i64 a0_0, .int .i64 a0_1, .int .i64 a0_2, .bool false] 85 ?_; intro gb450 hg w23 hbox hb; have BK450 := ak hbox; have GW450 := gy hg HB; have GE450 := gy hg HB; replace HB := bs HB hb; clear hb hbox hg; obtain ⟨_, _, _, _, _, _, _, _⟩ := bc4 BK450))
   go_ret2
   exact ⟨RT, PB⟩

/-! ### spec_WithoutQuery: function 109 -/
def spec_WithoutQuery.f (a0_0 : Int) (a0_1 : Int) (a0_2 : Int) : Option (Int × Int × Int) := some (a0_0, a0_1, 0)
set_option maxHeartbeats 8000000 in
set_option maxRecDepth 100000 in
theorem spec_WithoutQuery.calls (a0_0 : Int) (a0_1 : Int) (a0_2 : Int) (r1 : Int) (r2 : Int) (r3 : Int) (w : World) (h : spec_WithoutQuery.f a0_0 a0_1 a0_2 = some (r1, r2, r3)) :
  Calls Try.prog 109 #[.agg #[.int .i64 a0_0, .int .i64 a0_1, .int .i64 a0_2]] w fun e w' => e = .returned (.agg #[.int .i64 r1, .int .i64 r2, .int .i64 r3]) ∧ Below w.heap.size w w' := by
 have hu26 := Try.underlying26
 have HB := ak (Below.refl w.heap.size w)
 have H : (some (a0_0, a0_1, 0)) = some (r1, r2, r3) := h
 clear h
 simp only [Option.some.injEq, Prod.mk.injEq] at H
 obtain ⟨rfl, rfl, rfl⟩ := H
 go_enter Try.func109, Try.ntmps109
 go_wp2_with (first | ((with_reducible refine gate_dst (N := 1) rfl ?_); refine bx_ (N := 1) #[.int .i64 a0_0, .int .i64 a0_1, .int .i64 a0_2] 26 ?_; intro gb455 hg w2 hbox hb; have BK455 := ak hbox; have GW455 := gy hg HB; have GE455 := gy hg HB; replace HB := bs HB hb; clear hb hbox hg) | ((with_reducible refine gate_dst (N := 2) rfl ?_); refine bx_ (N := 2) #[.int .i64 0, .int .i64 0, .int .i64 0] 26 ?_; intro gb456 hg w3 hbox hb; have BK456 := ak hbox; have GW456 := gy hg HB; have GE456 := gy hg HB; replace HB := bs HB hb; have NB455_456 := gm hg BK455; have NB456_455 := gn hg BK455; replace BK455 := kf BK455 hb; clear hb hbox hg; have hnb4 := NB455_456.out; have hnc4 := NB456_455.out; obtain ⟨hcz5_0, hcz5_1, hcz5_2, hfz5_0, hfz5_1, hfz5_2⟩ := bc3 BK455; obtain ⟨hcz6_0, hcz6_1, hcz6_2, hfz6_0, hfz6_1, hfz6_2⟩ := bc3 BK456))
 refine bodyPost_ret (results_cell_row rfl _ _ gb456 26 #[.int .i64 a0_0, .int .i64 a0_1, .int .i64 0] (0, 0) _ rfl (PX BK456) Try.underlying26 rfl KR) rfl ?_
 exact ⟨RT, PB⟩

/-! ### spec_l19Kind: function 110 -/
def spec_l19Kind.f (k : Nat) (a0_0 : Int) (a0_1 : Int) (a0_2 : Int) (a0_3 : Int) (a0_4 : Int) (l0_5 : List Int) (a0_6 : Int) (a0_7 : Int) (a0_8 : Int) : Option (Bool) := (spec_IsResource.f k a0_4 l0_5 a0_6 a0_7 a0_8).bind fun t458 => (if t458 = true then (some (decide (a0_4 ≤ 2))) else (some false))
set_option maxHeartbeats 8000000 in
set_option maxRecDepth 100000 in
theorem spec_l19Kind.calls (k : Nat) (a0_0 : Int) (a0_1 : Int) (a0_2 : Int) (a0_3 : Int) (a0_4 : Int) (A0_5 : Option Addr) (c0_5 : Nat) (l0_5 : List Int) (a0_6 : Int) (a0_7 : Int) (a0_8 : Int) (r : Bool) (w : World) (hr0_5 : Kd.C (Kd.int .i64) w A0_5 l0_5.length l0_5) (hc0_5 : l0_5.length ≤ c0_5) (h : spec_l19Kind.f k a0_0 a0_1 a0_2 a0_3 a0_4 l0_5 a0_6 a0_7 a0_8 = some r) :
  Calls Try.prog 110 #[.agg #[.int .i64 a0_0, .int .i64 a0_1, .int .i64 a0_2, .int .i64 a0_3, .int .i64 a0_4, .slice A0_5 l0_5.length c0_5, .int .i64 a0_6, .int .i64 a0_7, .int .i64 a0_8]] w fun e w' => e = .returned (.bool r) ∧ Below w.heap.size w w' := by
 have hu40 := Try.underlying40
 have hu38 := Try.underlying38
 have HR0_5 := Aside0.mk hr0_5
 have HC0_5 := Aside0.mk hc0_5
 clear hr0_5 hc0_5
 have HB := ak (Below.refl w.heap.size w)
 have H : ((spec_IsResource.f k a0_4 l0_5 a0_6 a0_7 a0_8).bind fun t458 => (if t458 = true then (some (decide (a0_4 ≤ 2))) else (some false))) = some r := h
 clear h
 replace H := Option.bind_eq_some_iff.mp H
 obtain ⟨t458, A20, H⟩ := H
 replace H : (if t458 = true then (some (decide (a0_4 ≤ 2))) else (some false)) = some r := H
 have A2 := Aside0.mk A20
 clear A20
 by_cases c3 : t458 = true
 ·subst c3
  have H1 : (some (decide (a0_4 ≤ 2))) = some r := by rw [if_pos rfl] at H; exact H
  clear H
  have H := H1
  clear H1
  obtain rfl := Option.some.inj H
  go_enter Try.func110, Try.ntmps110
  go_wp2_with (first | ((with_reducible refine gate_dst (N := 1) rfl ?_); refine bx_ (N := 1) #[.int .i64 a0_0, .int .i64 a0_1, .int .i64 a0_2, .int .i64 a0_3, .int .i64 a0_4, .slice A0_5 l0_5.length c0_5, .int .i64 a0_6, .int .i64 a0_7, .int .i64 a0_8] 40 ?_; intro gb457 hg w4 hbox hb; have BK457 := ak hbox; have GW457 := gy hg HB; have GE457 := gy hg HB; replace HB := bs HB hb; clear hb hbox hg; obtain ⟨hcz5_0, hcz5_1, hcz5_2, hcz5_3, _, _, _, _, _, hfz5_0, hfz5_1, hfz5_2, hfz5_3, _, _, _, _, _⟩ := bc9 BK457) | ((with_reducible refine gate_callee (f := 122) rfl ?_); refine goesL_ (some 5) rfl rfl Try.func122 KR rfl #[.agg #[.int .i64 a0_4, .slice A0_5 l0_5.length c0_5, .int .i64 a0_6, .int .i64 a0_7, .int .i64 a0_8]] rfl AR ?_; (with_reducible refine (spec_IsResource.calls k a0_4 _ _ l0_5 a0_6 a0_7 a0_8 true _ ?side1 ?side2 A2.out).mono ?_); (case side1 => exact CR (Kd.C_below HR0_5.out HB.out)); (case side2 => exact HC0_5.out); rintro e w6 ⟨rfl, hb⟩; refine ⟨_, rfl, ?_⟩; replace BK457 := kf BK457 hb; replace HB := bs HB hb; (try clear hb); (try clear hb2); (try clear hk); (try clear hi); obtain ⟨_, _, _, _, _, _, _, _, _, _, _, _, _, _, _, _, _, _⟩ := bc9 BK457))
  go_ret
  exact ⟨RT, PB⟩
 ·replace c3 := Bool.eq_false_iff.mpr c3
  subst c3
  have H1 : (some false) = some r := by rw [if_neg (show ¬ (false = true) by decide)] at H; exact H
  clear H
  have H := H1
  clear H1
  obtain rfl := Option.some.inj H
  go_enter Try.func110, Try.ntmps110
  go_wp2_with (first | ((with_reducible refine gate_dst (N := 1) rfl ?_); refine bx_ (N := 1) #[.int .i64 a0_0, .int .i64 a0_1, .int .i64 a0_2, .int .i64 a0_3, .int .i64 a0_4, .slice A0_5 l0_5.length c0_5, .int .i64 a0_6, .int .i64 a0_7, .int .i64 a0_8] 40 ?_; intro gb457 hg w8 hbox hb; have BK457 := ak hbox; have GW457 := gy hg HB; have GE457 := gy hg HB; replace HB := bs HB hb; clear hb hbox hg; obtain ⟨hcz9_0, hcz9_1, hcz9_2, hcz9_3, hcz9_4, _, _, _, _, hfz9_0, hfz9_1, hfz9_2, hfz9_3, hfz9_4, _, _, _, _⟩ := bc9 BK457) | ((with_reducible refine gate_callee (f := 122) rfl ?_); refine goesL_ (some 5) rfl rfl Try.func122 KR rfl #[.agg #[.int .i64 a0_4, .slice A0_5 l0_5.length c0_5, .int .i64 a0_6, .int .i64 a0_7, .int .i64 a0_8]] rfl AR ?_; (with_reducible refine (spec_IsResource.calls k a0_4 _ _ l0_5 a0_6 a0_7 a0_8 false _ ?side1 ?side2 A2.out).mono ?_); (case side1 => exact CR (Kd.C_below HR0_5.out HB.out)); (case side2 => exact HC0_5.out); rintro e w10 ⟨rfl, hb⟩; refine ⟨_, rfl, ?_⟩; replace BK457 := kf BK457 hb; replace HB := bs HB hb; (try clear hb); (try clear hb2); (try clear hk); (try clear hi)))
  go_ret
  exact ⟨RT, PB⟩

/-! ### spec_Min: function 100 -/
def spec_Min.f (a0 : Int) (a1 : Int) : Option (Int) := if a1 < a0 then (some a1) else (some a0)
set_option maxHeartbeats 8000000 in
set_option maxRecDepth 100000 in
theorem spec_Min.calls (a0 : Int) (a1 : Int) (r : Int) (w : World) (h : spec_Min.f a0 a1 = some r) :
  Calls Try.prog 100 #[.int .i64 a0, .int .i64 a1] w fun e w' => e = .returned (.int .i64 r) ∧ Drawn0 w w' := by
 have H : (if a1 < a0 then (some a1) else (some a0)) = some r := h
 clear h
 by_cases c3 : a1 < a0
 ·rw [if_pos c3] at H
  have c3b0 : decide (a1 < a0) = true := decide_eq_true c3
  clear c3
  obtain rfl := Option.some.inj H
  go_enter Try.func100, Try.ntmps100
  go_wp2
  go_ret
  exact ⟨by first | rfl | (simp; done) | (simp [*]; done), by repeat (first | exact Drawn0.refl _ | apply Drawn0.step)⟩
 ·rw [if_neg c3] at H
  have c3b0 : decide (a1 < a0) = false := decide_eq_false c3
  clear c3
  obtain rfl := Option.some.inj H
  go_enter Try.func100, Try.ntmps100
  go_wp2
  go_ret
  exact ⟨by first | rfl | (simp; done) | (simp [*]; done), by repeat (first | exact Drawn0.refl _ | apply Drawn0.step)⟩

/-! ### spec_ValueOfResource: function 111 -/
mutual
def spec_ValueOfResource.j0 : Nat → Bool → Int → List Int → Int → Int → Int → Option (Int)
  | 0, _, _, _, _, _, _ => none
  | k + 1, x12, x460000, x460001, x460002, x460003, x460004 => if x12 = true then (some 0) else (spec_ValueOfResource.l0 k 0 0 x460000 x460001 x460002 x460003 x460004)
def spec_ValueOfResource.l0 : Nat → Int → Int → Int → List Int → Int → Int → Int → Option (Int)
  | 0, _, _, _, _, _, _, _ => none
  | k + 1, x3, x4, x460000, x460001, x460002, x460003, x460004 => if x4 < (x460001.length : Int) then (if 0 ≤ x4 then (spec_ValueOfResource.l0 k (Int.tmod (wrap64 (x3 + (rd x460001 x4))) 1000) (wrap64 (x4 + 1)) x460000 x460001 x460002 x460003 x460004) else (none)) else ((spec_Min.f 999 (wrap64 (x3 + 1))).bind fun t462 => (some t462))
end
def spec_ValueOfResource.f (k : Nat) (a0_0 : Int) (l0_1 : List Int) (a0_2 : Int) (a0_3 : Int) (a0_4 : Int) : Option (Int) := (spec_IsResource.f k a0_0 l0_1 a0_2 a0_3 a0_4).bind fun t460 => (if t460 = true then (spec_ValueOfResource.j0 k (decide (a0_0 > 2)) a0_0 l0_1 a0_2 a0_3 a0_4) else (spec_ValueOfResource.j0 k true a0_0 l0_1 a0_2 a0_3 a0_4))
set_option maxHeartbeats 8000000 in
set_option maxRecDepth 100000 in
theorem spec_ValueOfResource.calls (k : Nat) (a0_0 : Int) (A0_1 : Option Addr) (c0_1 : Nat) (l0_1 : List Int) (a0_2 : Int) (a0_3 : Int) (a0_4 : Int) (r : Int) (w : World) (hr0_1 : Kd.C (Kd.int .i64) w A0_1 l0_1.length l0_1) (hc0_1 : l0_1.length ≤ c0_1) (h : spec_ValueOfResource.f k a0_0 l0_1 a0_2 a0_3 a0_4 = some r) :
  Calls Try.prog 111 #[.agg #[.int .i64 a0_0, .slice A0_1 l0_1.length c0_1, .int .i64 a0_2, .int .i64 a0_3, .int .i64 a0_4]] w fun e w' => e = .returned (.int .i64 r) ∧ Below w.heap.size w w' := by
 have hu38 := Try.underlying38
 have HR0_1 := Aside0.mk hr0_1
 have HC0_1 := Aside0.mk hc0_1
 clear hr0_1 hc0_1
 have HB := ak (Below.refl w.heap.size w)
 have H : ((spec_IsResource.f k a0_0 l0_1 a0_2 a0_3 a0_4).bind fun t460 => (if t460 = true then (spec_ValueOfResource.j0 k (decide (a0_0 > 2)) a0_0 l0_1 a0_2 a0_3 a0_4) else (spec_ValueOfResource.j0 k true a0_0 l0_1 a0_2 a0_3 a0_4))) = some r := h
 clear h
 have HC2 := Aside0.mk H
 clear H
 go_enter Try.func111, Try.ntmps111
 go_upto_region 1 with (first | ((with_reducible refine gate_dst (N := 1) rfl ?_); refine bx_ (N := 1) #[.int .i64 a0_0, .slice A0_1 l0_1.length c0_1, .int .i64 a0_2, .int .i64 a0_3, .int .i64 a0_4] 38 ?_; intro gb459 hg w3 hbox hb; have BK459 := ak hbox; have GW459 := gy hg HB; have GE459 := gy hg HB; replace HB := bs HB hb; clear hb hbox hg))
 (try simp only [Act.put, List.setIfInBounds_toArray, List.set_cons_zero, List.set_cons_succ])
 go_cut [12] (fun v12 wc => ∃ (kq : Nat) (x12_1 : Bool), v12 = .bool x12_1 ∧ Aside0 (spec_ValueOfResource.j0 kq x12_1 a0_0 l0_1 a0_2 a0_3 a0_4 = some r) ∧ Aside0 (kq ≤ k) ∧ Aside0 (wc.heap[gb459]? = some (.cells #[.int .i64 a0_0, (.slice A0_1 l0_1.length c0_1), .int .i64 a0_2, .int .i64 a0_3, .int .i64 a0_4] 38 (0, 0))) ∧ Aside0 (Below w.heap.size w wc))
 case first =>
  have H := HC2.out
  clear HC2
  replace H := Option.bind_eq_some_iff.mp H
  obtain ⟨t460, A40, H⟩ := H
  replace H : (if t460 = true then (spec_ValueOfResource.j0 k (decide (a0_0 > 2)) a0_0 l0_1 a0_2 a0_3 a0_4) else (spec_ValueOfResource.j0 k true a0_0 l0_1 a0_2 a0_3 a0_4)) = some r := H
  have A4 := Aside0.mk A40
  clear A40
  by_cases c5 : t460 = true
  ·subst c5
   have H1 : (spec_ValueOfResource.j0 k (decide (a0_0 > 2)) a0_0 l0_1 a0_2 a0_3 a0_4) = some r := by rw [if_pos rfl] at H; exact H
   clear H
   have H := H1
   clear H1
   have H' := Aside0.mk H
   clear H
   obtain ⟨hcz6_0, hcz6_1, hcz6_2, hcz6_3, hcz6_4, hfz6_0, hfz6_1, hfz6_2, hfz6_3, hfz6_4⟩ := bc5 BK459
   go_wp2_with (first | ((with_reducible refine gate_callee (f := 122) rfl ?_); refine goesL_ (some 6) rfl rfl Try.func122 KR rfl #[.agg #[.int .i64 a0_0, .slice A0_1 l0_1.length c0_1, .int .i64 a0_2, .int .i64 a0_3, .int .i64 a0_4]] rfl AR ?_; (with_reducible refine (spec_IsResource.calls k a0_0 _ _ l0_1 a0_2 a0_3 a0_4 true _ ?side1 ?side2 A4.out).mono ?_); (case side1 => exact CR (Kd.C_below HR0_1.out HB.out)); (case side2 => exact HC0_1.out); rintro e w7 ⟨rfl, hb⟩; refine ⟨_, rfl, ?_⟩; replace BK459 := kf BK459 hb; replace HB := bs HB hb; (try clear hb); (try clear hb2); (try clear hk); (try clear hi); obtain ⟨hcz8_0, hcz8_1, hcz8_2, hcz8_3, hcz8_4, hfz8_0, hfz8_1, hfz8_2, hfz8_3, hfz8_4⟩ := bc5 BK459))
   go_meet
   case rel => exact ⟨_, (decide (a0_0 > 2)), (by first | rfl | (simp; done) | (simp [*]; done)), H', ⟨by first | omega | exact Nat.le_refl _⟩, ⟨PK BK459⟩, ⟨PB⟩⟩
  ·replace c5 := Bool.eq_false_iff.mpr c5
   subst c5
   have H1 : (spec_ValueOfResource.j0 k true a0_0 l0_1 a0_2 a0_3 a0_4) = some r := by rw [if_neg (show ¬ (false = true) by decide)] at H; exact H
   clear H
   have H := H1
   clear H1
   have H' := Aside0.mk H
   clear H
   obtain ⟨hcz9_0, hcz9_1, hcz9_2, hcz9_3, hcz9_4, hfz9_0, hfz9_1, hfz9_2, hfz9_3, hfz9_4⟩ := bc5 BK459
   go_wp2_with (first | ((with_reducible refine gate_callee (f := 122) rfl ?_); refine goesL_ (some 6) rfl rfl Try.func122 KR rfl #[.agg #[.int .i64 a0_0, .slice A0_1 l0_1.length c0_1, .int .i64 a0_2, .int .i64 a0_3, .int .i64 a0_4]] rfl AR ?_; (with_reducible refine (spec_IsResource.calls k a0_0 _ _ l0_1 a0_2 a0_3 a0_4 false _ ?side1 ?side2 A4.out).mono ?_); (case side1 => exact CR (Kd.C_below HR0_1.out HB.out)); (case side2 => exact HC0_1.out); rintro e w10 ⟨rfl, hb⟩; refine ⟨_, rfl, ?_⟩; replace BK459 := kf BK459 hb; replace HB := bs HB hb; (try clear hb); (try clear hb2); (try clear hk); (try clear hi)))
   go_meet
   case rel => exact ⟨_, (true), (by first | rfl | (simp; done) | (simp [*]; done)), H', ⟨by first | omega | exact Nat.le_refl _⟩, ⟨PK BK459⟩, ⟨PB⟩⟩
 case rest =>
  clear HC2
  (try clear c1); (try clear p2); (try clear c5); (try clear hcz6_0); (try clear hcz6_1); (try clear hcz6_2); (try clear hcz6_3); (try clear hcz6_4); (try clear hcz8_0); (try clear hcz8_1); (try clear hcz8_2); (try clear hcz8_3); (try clear hcz8_4); (try clear hcz9_0); (try clear hcz9_1); (try clear hcz9_2); (try clear hcz9_3); (try clear hcz9_4); (try clear hfz6_0); (try clear hfz6_1); (try clear hfz6_2); (try clear hfz6_3); (try clear hfz6_4); (try clear hfz8_0); (try clear hfz8_1); (try clear hfz8_2); (try clear hfz8_3); (try clear hfz8_4); (try clear hfz9_0); (try clear hfz9_1); (try clear hfz9_2); (try clear hfz9_3); (try clear hfz9_4)
  obtain ⟨kq, x12_1, rfl, HA, HJ1, BK459, HB⟩ := hcut
  cases kq with
  | zero => exact absurd HA.out (by simp [spec_ValueOfResource.j0])
  | succ kj1 =>
   have H := HA.out
   clear HA
   simp only [spec_ValueOfResource.j0] at H
   by_cases c11 : x12_1 = true
   ·subst c11
    have H1 : (some 0) = some r := by rw [if_pos rfl] at H; exact H
    clear H
    have H := H1
    clear H1
    obtain rfl := Option.some.inj H
    go_wp2
    go_ret
    exact ⟨RT, PB⟩
   ·replace c11 := Bool.eq_false_iff.mpr c11
    subst c11
    have H1 : (spec_ValueOfResource.l0 kj1 0 0 a0_0 l0_1 a0_2 a0_3 a0_4) = some r := by rw [if_neg (show ¬ (false = true) by decide)] at H; exact H
    clear H
    have H := H1
    clear H1
    have H' := Aside0.mk H
    clear H
    go_wp2
    go_loopg [3, 4] kj1 (fun kq v3 v4 w' => ∃ (x3_2 : Int) (x4_2 : Int), v3 = .int .i64 x3_2 ∧ v4 = .int .i64 x4_2 ∧ Aside0 (spec_ValueOfResource.l0 kq x3_2 x4_2 a0_0 l0_1 a0_2 a0_3 a0_4 = some r) ∧ Aside0 (kq ≤ kj1) ∧ Aside0 (w'.heap[gb459]? = some (.cells #[.int .i64 a0_0, (.slice A0_1 l0_1.length c0_1), .int .i64 a0_2, .int .i64 a0_3, .int .i64 a0_4] 38 (0, 0))) ∧ Aside0 (Below w.heap.size w w'))
    case atStart => exact ⟨(0), (0), (by first | rfl | (simp; done) | (simp [*]; done)), (by first | rfl | (simp; done) | (simp [*]; done)), H', ⟨Nat.le_refl _⟩, ⟨PK BK459⟩, ⟨PB⟩⟩
    case round =>
     clear H'
     (try clear c1); (try clear p2); (try clear c5); (try clear c11); (try clear hcz6_0); (try clear hcz6_1); (try clear hcz6_2); (try clear hcz6_3); (try clear hcz6_4); (try clear hcz8_0); (try clear hcz8_1); (try clear hcz8_2); (try clear hcz8_3); (try clear hcz8_4); (try clear hcz9_0); (try clear hcz9_1); (try clear hcz9_2); (try clear hcz9_3); (try clear hcz9_4); (try clear hfz6_0); (try clear hfz6_1); (try clear hfz6_2); (try clear hfz6_3); (try clear hfz6_4); (try clear hfz8_0); (try clear hfz8_1); (try clear hfz8_2); (try clear hfz8_3); (try clear hfz8_4); (try clear hfz9_0); (try clear hfz9_1); (try clear hfz9_2); (try clear hfz9_3); (try clear hfz9_4); (try clear p2)
     obtain ⟨x3_2, x4_2, rfl, rfl, HA, HK2, BK459, HB⟩ := hrel
     cases gk with
     | zero => exact absurd HA.out (by simp [spec_ValueOfResource.l0])
     | succ k2 =>
      have H := HA.out
      clear HA
      simp only [spec_ValueOfResource.l0] at H
      by_cases c12 : x4_2 < (l0_1.length : Int)
      ·rw [if_pos c12] at H
       have c12b0 : decide (x4_2 < (l0_1.length : Int)) = true := decide_eq_true c12
       clear c12
       by_cases c13 : 0 ≤ x4_2
       ·rw [if_pos c13] at H
        have c13b0 : decide (0 ≤ x4_2) = true := decide_eq_true c13
        clear c13
        have H' := Aside0.mk H
        clear H
        obtain ⟨_, _, _, _, _, _, _, _, _, _⟩ := bc5 BK459
        have p461 : 0 ≤ (x4_2 : Int) := of_decide_eq_true (by first | (with_reducible assumption) | assumption)
        have q461 : x4_2 < (l0_1.length : Int) := of_decide_eq_true (by first | (with_reducible assumption) | assumption)
        obtain ⟨ad461, e461, hx461_0⟩ := Kd.at_int HR0_1.out x4_2 p461 q461
        cases e461
        replace hx461_0 := hx_ HB hx461_0
        replace p461 := eq_true p461
        replace q461 := eq_true q461
        go_wp2
        go_roundg k2
        case measure => have := HJ1.out; have := HK2.out; omega
        case rel => exact ⟨(Int.tmod (wrap64 (x3_2 + (rd l0_1 x4_2))) 1000), (wrap64 (x4_2 + 1)), (by first | rfl | (simp; done) | (simp [*]; done)), (by first | rfl | (simp; done) | (simp [*]; done)), H', ⟨by have := HJ1.out; have := HK2.out; omega⟩, ⟨PK BK459⟩, ⟨PB⟩⟩
       ·rw [if_neg c13] at H
        exact absurd H (by simp)
      ·rw [if_neg c12] at H
       have c12b0 : decide (x4_2 < (l0_1.length : Int)) = false := decide_eq_false c12
       clear c12
       replace H := Option.bind_eq_some_iff.mp H
       obtain ⟨t462, A150, H⟩ := H
       replace H : (some t462) = some r := H
       have A15 := Aside0.mk A150
       clear A150
       obtain rfl := Option.some.inj H
       obtain ⟨hcz16_0, hcz16_1, hcz16_2, hcz16_3, hcz16_4, hfz16_0, hfz16_1, hfz16_2, hfz16_3, hfz16_4⟩ := bc5 BK459
       go_wp2_with (first | ((with_reducible refine gate_callee (f := 100) rfl ?_); refine goesL_ (some 30) rfl rfl Try.func100 KR rfl #[.int .i64 999, .int .i64 (wrap64 (x3_2 + 1))] rfl AR ?_; (with_reducible refine (spec_Min.calls 999 (wrap64 (x3_2 + 1)) t462 _ A15.out).mono ?_); rintro e w' ⟨rfl, ⟨nd, rfl⟩⟩; refine ⟨_, rfl, ?_⟩))
       go_ret
       exact ⟨RT, PB⟩

end Go.Proofs.Ytgcamebeonodeaa.MFnForms
