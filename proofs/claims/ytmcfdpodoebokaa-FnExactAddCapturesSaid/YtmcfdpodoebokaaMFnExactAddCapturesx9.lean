-- Written by a program of this session out of the translation's own print. Not trusted: Lean checks it.
import Derived.Test.YtmcfdpodoebokaaShr2
import Derived.Test.YtmcfdpodoebokaaMFnExactAddCapturesx0
import Derived.Test.YtmcfdpodoebokaaMFnExactAddCapturesx8
namespace Go.Proofs.Ytmcfdpodoebokaa.MFnExactAddCaptures
open Go.RowKit Go.Proofs.YtmcfdpodoebokaaW.PrintWords Go.Proofs.YtmcfdpodoebokaaW.PrintLast Go.Proofs.YtmcfdpodoebokaaW.PrintMore
attribute [local go_sem] max2_int min2_int max_two min_two max_three min_three max_four min_four   -- for this text's walks alone
set_option linter.unusedVariables false
set_option linter.unusedSimpArgs false

abbrev b9_0 : Array Bool := #[true, true, true, true, true, true, true, true, true, true]
abbrev b9_1 : Array Bool := #[true, true, true, true, true, true, true, true, true, false]
abbrev b9_2 : Array Bool := #[true, true, true, true, true, true, true, true, false, false]
abbrev b9_3 : Array Bool := #[true, true, true, true, true, true, true, false, false, false]
abbrev b9_4 : Array Bool := #[true, true, true, false, true, true, true, false, false, false]
abbrev b9_5 : Array Bool := #[true, true, true, false, true, true, false, false, false, false]
abbrev b9_6 : Array Bool := #[true, true, true, false, true, false, false, false, false, false]
abbrev b9_7 : Array Bool := #[true, true, true, false, false, false, false, false, false, false]
abbrev b9_8 : Array Bool := #[true, true, false, false, false, false, false, false, false, false]
abbrev b9_9 : Array Bool := #[true, false, false, false, false, false, false, false, false, false]
abbrev b9_10 : Array Bool := #[false, false, false, false, false, false, false, false, false, false]
/-! ### laws_eqCaptureS: function 8 -/
def laws_eqCaptureS.l0 : Nat → List (S45) → List (S45) → Int → Option (Bool)
  | 0, _, _, _ => none
  | k + 1, x0, x1, x5 => if x5 < (x0.length : Int) then (if 0 ≤ x5 then (if x5 < (x1.length : Int) then ((laws_eqCapture.f k ((rd_T45 x0 x5).f0.f0) ((rd_T45 x0 x5).f0.f1) ((rd_T45 x0 x5).f0.f2) ((rd_T45 x0 x5).f1) ((rd_T45 x0 x5).f2.f0) ((rd_T45 x0 x5).f2.f1) ((rd_T45 x0 x5).f2.f2.f0) ((rd_T45 x0 x5).f2.f2.f1) ((rd_T45 x0 x5).f2.f2.f2) ((rd_T45 x1 x5).f0.f0) ((rd_T45 x1 x5).f0.f1) ((rd_T45 x1 x5).f0.f2) ((rd_T45 x1 x5).f1) ((rd_T45 x1 x5).f2.f0) ((rd_T45 x1 x5).f2.f1) ((rd_T45 x1 x5).f2.f2.f0) ((rd_T45 x1 x5).f2.f2.f1) ((rd_T45 x1 x5).f2.f2.f2)).bind fun t305 => (if t305 = true then (laws_eqCaptureS.l0 k x0 x1 (wrap64 (x5 + 1))) else (some false))) else (none)) else (none)) else (some true)
def laws_eqCaptureS.f (k : Nat) (l0 : List (S45)) (l1 : List (S45)) : Option (Bool) := if (l0.length : Int) = (l1.length : Int) then (laws_eqCaptureS.l0 k l0 l1 0) else (some false)
def laws_eqCaptureS.T6 : Bool × List (List Nat × List Nat) := (true, [([], []), ([], []), ([0, 1], [0, 1]), ([2], [2]), ([], []), ([], []), ([4, 5], [4, 5]), ([6], [6]), ([3, 7], [3, 7]), ([8], [8])])
def laws_eqCaptureS.B6 : List Nat := [0, 0, 3, 7, 0, 0, 48, 112, 255, 511]
theorem laws_eqCaptureS.tab6 : rtab .any (opsOf Try.f8 6) = laws_eqCaptureS.T6 := by kernel_rfl
theorem laws_eqCaptureS.bits6 : waitsOk laws_eqCaptureS.T6.2 laws_eqCaptureS.B6 = true := by kernel_rfl
set_option maxHeartbeats 8000000 in
set_option maxRecDepth 100000 in
theorem laws_eqCaptureS.calls (k : Nat) (A0 : Option Addr) (c0 : Nat) (l0 : List (S45)) (A1 : Option Addr) (c1 : Nat) (l1 : List (S45)) (r : Bool) (w : World) (hr0 : Kd.C k45 w A0 l0.length l0) (hc0 : l0.length ≤ c0) (hr1 : Kd.C k45 w A1 l1.length l1) (hc1 : l1.length ≤ c1) (h : laws_eqCaptureS.f k l0 l1 = some r) :
  Calls Try.prog 8 #[.slice A0 l0.length c0, .slice A1 l1.length c1] w fun e w' => e = .returned (.bool r) ∧ Below w.heap.size w w' := by
 have hu45 := Try.underlying45
 have HR0 := Aside0.mk hr0
 have HC0 := Aside0.mk hc0
 clear hr0 hc0
 have HR1 := Aside0.mk hr1
 have HC1 := Aside0.mk hc1
 clear hr1 hc1
 have HB := ak (Below.refl w.heap.size w)
 have H : (if (l0.length : Int) = (l1.length : Int) then (laws_eqCaptureS.l0 k l0 l1 0) else (some false)) = some r := h
 clear h
 by_cases c3 : (l0.length : Int) = (l1.length : Int)
 ·rw [if_pos c3] at H
  have c3b0 : ((l0.length : Int) == (l1.length : Int)) = true := beq_iff_eq.mpr c3
  have c3b1 : ((l0.length : Int) != (l1.length : Int)) = false := bne_eq_false_iff_eq.mpr c3
  have c3b2 : (l0.length == l1.length) = true := by first | simpa using c3 | (simp at c3 ⊢; omega)
  clear c3
  have H' := Aside0.mk H
  clear H
  go_enter Try.func8, Try.ntmps8
  go_wp2
  go_loopg [5] k (fun kq v5 w' => ∃ (x5_1 : Int), v5 = .int .i64 x5_1 ∧ Aside0 (laws_eqCaptureS.l0 kq l0 l1 x5_1 = some r) ∧ Aside0 (kq ≤ k) ∧ Aside0 (Below w.heap.size w w'))
  case atStart => exact ⟨(0), (by first | rfl | (simp; done) | (simp [*]; done)), H', ⟨Nat.le_refl _⟩, ⟨PB⟩⟩
  case round =>
   clear H'
   (try clear c1); (try clear p2); (try clear c3); (try clear c3b0); (try clear c3b1); (try clear c3b2)
   obtain ⟨x5_1, rfl, HA, HK1, HB⟩ := hrel
   cases gk with
   | zero => exact absurd HA.out (by simp [laws_eqCaptureS.l0])
   | succ k1 =>
    have H := HA.out
    clear HA
    simp only [laws_eqCaptureS.l0] at H
    by_cases c4 : x5_1 < (l0.length : Int)
    ·rw [if_pos c4] at H
     have c4b0 : decide (x5_1 < (l0.length : Int)) = true := decide_eq_true c4
     clear c4
     by_cases c5 : 0 ≤ x5_1
     ·rw [if_pos c5] at H
      have c5b0 : decide (0 ≤ x5_1) = true := decide_eq_true c5
      clear c5
      by_cases c6 : x5_1 < (l1.length : Int)
      ·rw [if_pos c6] at H
       have c6b0 : decide (x5_1 < (l1.length : Int)) = true := decide_eq_true c6
       clear c6
       replace H := Option.bind_eq_some_iff.mp H
       obtain ⟨t305, A70, H⟩ := H
       replace H : (if t305 = true then (laws_eqCaptureS.l0 k1 l0 l1 (wrap64 (x5_1 + 1))) else (some false)) = some r := H
       have A7 := Aside0.mk A70
       clear A70
       by_cases c8 : t305 = true
       ·subst c8
        have H1 : (laws_eqCaptureS.l0 k1 l0 l1 (wrap64 (x5_1 + 1))) = some r := by rw [if_pos rfl] at H; exact H
        clear H
        have H := H1
        clear H1
        have H' := Aside0.mk H
        clear H
        try go_wp2
        replace HB := ak (below_drew1 HB.out)
        have p303 : 0 ≤ (x5_1 : Int) := of_decide_eq_true (by first | (with_reducible assumption) | assumption)
        have q303 : x5_1 < (l0.length : Int) := of_decide_eq_true (by first | (with_reducible assumption) | assumption)
        obtain ⟨ad303, A303_5, c303_5, e303, hx303_0, hx303_1, hx303_2, hx303_3, hx303_4, hx303_5, hx303_6, hx303_7, hx303_8, hl303_5, hi303_5⟩ := at_T45 HR0.out x5_1 p303 q303
        have hw303_8 := hx303_8
        have hw303_7 := hx303_7
        have hw303_6 := hx303_6
        have hw303_5 := hx303_5
        have hw303_4 := hx303_4
        have hw303_3 := hx303_3
        have hw303_2 := hx303_2
        have hw303_1 := hx303_1
        have hw303_0 := hx303_0
        cases e303
        replace hx303_0 := hx_ HB hx303_0
        replace hx303_1 := hx_ HB hx303_1
        replace hx303_2 := hx_ HB hx303_2
        replace hx303_3 := hx_ HB hx303_3
        replace hx303_4 := hx_ HB hx303_4
        replace hx303_5 := hx_ HB hx303_5
        replace hx303_6 := hx_ HB hx303_6
        replace hx303_7 := hx_ HB hx303_7
        replace hx303_8 := hx_ HB hx303_8
        have HR303_5 := Aside0.mk hi303_5
        have HC303_5 := Aside0.mk hl303_5
        clear hi303_5 hl303_5
        replace p303 := eq_true p303
        replace q303 := eq_true q303
        have p304 : 0 ≤ (x5_1 : Int) := of_decide_eq_true (by first | (with_reducible assumption) | assumption)
        have q304 : x5_1 < (l1.length : Int) := of_decide_eq_true (by first | (with_reducible assumption) | assumption)
        obtain ⟨ad304, A304_5, c304_5, e304, hx304_0, hx304_1, hx304_2, hx304_3, hx304_4, hx304_5, hx304_6, hx304_7, hx304_8, hl304_5, hi304_5⟩ := at_T45 HR1.out x5_1 p304 q304
        have hw304_8 := hx304_8
        have hw304_7 := hx304_7
        have hw304_6 := hx304_6
        have hw304_5 := hx304_5
        have hw304_4 := hx304_4
        have hw304_3 := hx304_3
        have hw304_2 := hx304_2
        have hw304_1 := hx304_1
        have hw304_0 := hx304_0
        cases e304
        replace hx304_0 := hx_ HB hx304_0
        replace hx304_1 := hx_ HB hx304_1
        replace hx304_2 := hx_ HB hx304_2
        replace hx304_3 := hx_ HB hx304_3
        replace hx304_4 := hx_ HB hx304_4
        replace hx304_5 := hx_ HB hx304_5
        replace hx304_6 := hx_ HB hx304_6
        replace hx304_7 := hx_ HB hx304_7
        replace hx304_8 := hx_ HB hx304_8
        have HR304_5 := Aside0.mk hi304_5
        have HC304_5 := Aside0.mk hl304_5
        clear hi304_5 hl304_5
        replace p304 := eq_true p304
        replace q304 := eq_true q304
        refine start_ (n := 10) (S := fun w' => w'.cell? (ad303.add ((x5_1).toNat * 9)) = some (.int .i64 ((rd_T45 l0 x5_1).f0.f0)) ∧ w'.cell? ⟨(ad303.add ((x5_1).toNat * 9)).block, (ad303.add ((x5_1).toNat * 9)).off + 1, none⟩ = some (.int .i64 ((rd_T45 l0 x5_1).f0.f1)) ∧ w'.cell? ⟨(ad303.add ((x5_1).toNat * 9)).block, (ad303.add ((x5_1).toNat * 9)).off + 2, none⟩ = some (.int .i64 ((rd_T45 l0 x5_1).f0.f2)) ∧ w'.cell? ⟨(ad303.add ((x5_1).toNat * 9)).block, (ad303.add ((x5_1).toNat * 9)).off + 3, none⟩ = some (.int .i64 ((rd_T45 l0 x5_1).f1)) ∧ w'.cell? ⟨(ad303.add ((x5_1).toNat * 9)).block, (ad303.add ((x5_1).toNat * 9)).off + 4, none⟩ = some (.int .i64 ((rd_T45 l0 x5_1).f2.f0)) ∧ w'.cell? ⟨(ad303.add ((x5_1).toNat * 9)).block, (ad303.add ((x5_1).toNat * 9)).off + 5, none⟩ = some (.slice A303_5 ((rd_T45 l0 x5_1).f2.f1).length c303_5) ∧ w'.cell? ⟨(ad303.add ((x5_1).toNat * 9)).block, (ad303.add ((x5_1).toNat * 9)).off + 6, none⟩ = some (.int .i64 ((rd_T45 l0 x5_1).f2.f2.f0)) ∧ w'.cell? ⟨(ad303.add ((x5_1).toNat * 9)).block, (ad303.add ((x5_1).toNat * 9)).off + 7, none⟩ = some (.int .i64 ((rd_T45 l0 x5_1).f2.f2.f1)) ∧ w'.cell? ⟨(ad303.add ((x5_1).toNat * 9)).block, (ad303.add ((x5_1).toNat * 9)).off + 8, none⟩ = some (.int .i64 ((rd_T45 l0 x5_1).f2.f2.f2)) ∧ w'.cell? (ad304.add ((x5_1).toNat * 9)) = some (.int .i64 ((rd_T45 l1 x5_1).f0.f0)) ∧ w'.cell? ⟨(ad304.add ((x5_1).toNat * 9)).block, (ad304.add ((x5_1).toNat * 9)).off + 1, none⟩ = some (.int .i64 ((rd_T45 l1 x5_1).f0.f1)) ∧ w'.cell? ⟨(ad304.add ((x5_1).toNat * 9)).block, (ad304.add ((x5_1).toNat * 9)).off + 2, none⟩ = some (.int .i64 ((rd_T45 l1 x5_1).f0.f2)) ∧ w'.cell? ⟨(ad304.add ((x5_1).toNat * 9)).block, (ad304.add ((x5_1).toNat * 9)).off + 3, none⟩ = some (.int .i64 ((rd_T45 l1 x5_1).f1)) ∧ w'.cell? ⟨(ad304.add ((x5_1).toNat * 9)).block, (ad304.add ((x5_1).toNat * 9)).off + 4, none⟩ = some (.int .i64 ((rd_T45 l1 x5_1).f2.f0)) ∧ w'.cell? ⟨(ad304.add ((x5_1).toNat * 9)).block, (ad304.add ((x5_1).toNat * 9)).off + 5, none⟩ = some (.slice A304_5 ((rd_T45 l1 x5_1).f2.f1).length c304_5) ∧ w'.cell? ⟨(ad304.add ((x5_1).toNat * 9)).block, (ad304.add ((x5_1).toNat * 9)).off + 6, none⟩ = some (.int .i64 ((rd_T45 l1 x5_1).f2.f2.f0)) ∧ w'.cell? ⟨(ad304.add ((x5_1).toNat * 9)).block, (ad304.add ((x5_1).toNat * 9)).off + 7, none⟩ = some (.int .i64 ((rd_T45 l1 x5_1).f2.f2.f1)) ∧ w'.cell? ⟨(ad304.add ((x5_1).toNat * 9)).block, (ad304.add ((x5_1).toNat * 9)).off + 8, none⟩ = some (.int .i64 ((rd_T45 l1 x5_1).f2.f2.f2))) (ds := []) b9_10 KR rfl rfl ⟨((HB.out.cell (World.block_lt_of_cell? w _ hw303_0)).trans hw303_0), ((HB.out.cell (World.block_lt_of_cell? w _ hw303_1)).trans hw303_1), ((HB.out.cell (World.block_lt_of_cell? w _ hw303_2)).trans hw303_2), ((HB.out.cell (World.block_lt_of_cell? w _ hw303_3)).trans hw303_3), ((HB.out.cell (World.block_lt_of_cell? w _ hw303_4)).trans hw303_4), ((HB.out.cell (World.block_lt_of_cell? w _ hw303_5)).trans hw303_5), ((HB.out.cell (World.block_lt_of_cell? w _ hw303_6)).trans hw303_6), ((HB.out.cell (World.block_lt_of_cell? w _ hw303_7)).trans hw303_7), ((HB.out.cell (World.block_lt_of_cell? w _ hw303_8)).trans hw303_8), ((HB.out.cell (World.block_lt_of_cell? w _ hw304_0)).trans hw304_0), ((HB.out.cell (World.block_lt_of_cell? w _ hw304_1)).trans hw304_1), ((HB.out.cell (World.block_lt_of_cell? w _ hw304_2)).trans hw304_2), ((HB.out.cell (World.block_lt_of_cell? w _ hw304_3)).trans hw304_3), ((HB.out.cell (World.block_lt_of_cell? w _ hw304_4)).trans hw304_4), ((HB.out.cell (World.block_lt_of_cell? w _ hw304_5)).trans hw304_5), ((HB.out.cell (World.block_lt_of_cell? w _ hw304_6)).trans hw304_6), ((HB.out.cell (World.block_lt_of_cell? w _ hw304_7)).trans hw304_7), ((HB.out.cell (World.block_lt_of_cell? w _ hw304_8)).trans hw304_8)⟩ (fun hHeld => ?_); refine with_tabW laws_eqCaptureS.tab6 laws_eqCaptureS.bits6 (fun HT_ HW_ => ?_)
        generalize wr.drew = w9 at HB HR303_5 HR304_5 hx303_0 hx303_1 hx303_2 hx303_3 hx303_4 hx303_5 hx303_6 hx303_7 hx303_8 hx304_0 hx304_1 hx304_2 hx304_3 hx304_4 hx304_5 hx304_6 hx304_7 hx304_8 hHeld ⊢
        refine pu_ (i := 0) (N := some 17) b9_9 HT_ ?_
        refine pu_ (i := 1) (N := some 18) b9_8 HT_ ?_
        refine pu_ (i := 2) (N := some 19) b9_7 HT_ ?_
        refine pu_ (i := 4) (N := some 21) b9_6 HT_ ?_
        refine pu_ (i := 5) (N := some 22) b9_5 HT_ ?_
        refine pu_ (i := 6) (N := some 23) b9_4 HT_ ?_
        refine tk_ (i := 3) (N := some 20) b9_3 rfl rfl HT_ HW_ hHeld ?_
        refine take_ (i := 7) (N := some 24) (v := ?_) (a' := ?_) b9_2 rfl rfl (take_ofW HT_.out HW_.out KR) (fun _ _ _ h => h) (Or.inl ⟨by rfl, ?_⟩) hHeld ?_ ?_
        rotate_left
        ·rintro w' ⟨s0, s1, s2, s3, s4, s5, s6, s7, s8, s9, s10, s11, s12, s13, s14, s15, s16, s17⟩
         go_simp
         with_reducible rfl
        rotate_left
        ·simp only [Act.put, List.setIfInBounds_toArray, List.set_cons_zero, List.set_cons_succ, i64_w, i32_w]
         rfl
        refine one_ (i := 8) (N := some 25) b9_1 rfl rfl (one_of HT_.out KR) (by decide) (fun K hK => ?_)
        refine goes_ Try.func20 KR rfl #[.agg #[.int .i64 ((rd_T45 l0 x5_1).f0.f0), .int .i64 ((rd_T45 l0 x5_1).f0.f1), .int .i64 ((rd_T45 l0 x5_1).f0.f2), .int .i64 ((rd_T45 l0 x5_1).f1), .int .i64 ((rd_T45 l0 x5_1).f2.f0), .slice A303_5 ((rd_T45 l0 x5_1).f2.f1).length c303_5, .int .i64 ((rd_T45 l0 x5_1).f2.f2.f0), .int .i64 ((rd_T45 l0 x5_1).f2.f2.f1), .int .i64 ((rd_T45 l0 x5_1).f2.f2.f2)], .agg #[.int .i64 ((rd_T45 l1 x5_1).f0.f0), .int .i64 ((rd_T45 l1 x5_1).f0.f1), .int .i64 ((rd_T45 l1 x5_1).f0.f2), .int .i64 ((rd_T45 l1 x5_1).f1), .int .i64 ((rd_T45 l1 x5_1).f2.f0), .slice A304_5 ((rd_T45 l1 x5_1).f2.f1).length c304_5, .int .i64 ((rd_T45 l1 x5_1).f2.f2.f0), .int .i64 ((rd_T45 l1 x5_1).f2.f2.f1), .int .i64 ((rd_T45 l1 x5_1).f2.f2.f2)]] (by rfl) rfl rfl AR ?_
        with_reducible refine (laws_eqCapture.calls k1 ((rd_T45 l0 x5_1).f0.f0) ((rd_T45 l0 x5_1).f0.f1) ((rd_T45 l0 x5_1).f0.f2) ((rd_T45 l0 x5_1).f1) ((rd_T45 l0 x5_1).f2.f0) _ _ ((rd_T45 l0 x5_1).f2.f1) ((rd_T45 l0 x5_1).f2.f2.f0) ((rd_T45 l0 x5_1).f2.f2.f1) ((rd_T45 l0 x5_1).f2.f2.f2) ((rd_T45 l1 x5_1).f0.f0) ((rd_T45 l1 x5_1).f0.f1) ((rd_T45 l1 x5_1).f0.f2) ((rd_T45 l1 x5_1).f1) ((rd_T45 l1 x5_1).f2.f0) _ _ ((rd_T45 l1 x5_1).f2.f1) ((rd_T45 l1 x5_1).f2.f2.f0) ((rd_T45 l1 x5_1).f2.f2.f1) ((rd_T45 l1 x5_1).f2.f2.f2) true _ ?side1 ?side2 ?side3 ?side4 A7.out).mono ?_
        (case side1 => exact CR (Kd.C_below HR303_5.out HB.out))
        (case side2 => exact HC303_5.out)
        (case side3 => exact CR (Kd.C_below HR304_5.out HB.out))
        (case side4 => exact HC304_5.out)
        rintro e w10 ⟨rfl, hb⟩
        refine ⟨_, rfl, ?_⟩
        replace HB := bs HB hb
        (try clear hb)
        (try clear hb2)
        (try clear hk)
        (try clear hi)
        refine hK.out _ _ ⟨((HB.out.cell (World.block_lt_of_cell? w _ hw303_0)).trans hw303_0), ((HB.out.cell (World.block_lt_of_cell? w _ hw303_1)).trans hw303_1), ((HB.out.cell (World.block_lt_of_cell? w _ hw303_2)).trans hw303_2), ((HB.out.cell (World.block_lt_of_cell? w _ hw303_3)).trans hw303_3), ((HB.out.cell (World.block_lt_of_cell? w _ hw303_4)).trans hw303_4), ((HB.out.cell (World.block_lt_of_cell? w _ hw303_5)).trans hw303_5), ((HB.out.cell (World.block_lt_of_cell? w _ hw303_6)).trans hw303_6), ((HB.out.cell (World.block_lt_of_cell? w _ hw303_7)).trans hw303_7), ((HB.out.cell (World.block_lt_of_cell? w _ hw303_8)).trans hw303_8), ((HB.out.cell (World.block_lt_of_cell? w _ hw304_0)).trans hw304_0), ((HB.out.cell (World.block_lt_of_cell? w _ hw304_1)).trans hw304_1), ((HB.out.cell (World.block_lt_of_cell? w _ hw304_2)).trans hw304_2), ((HB.out.cell (World.block_lt_of_cell? w _ hw304_3)).trans hw304_3), ((HB.out.cell (World.block_lt_of_cell? w _ hw304_4)).trans hw304_4), ((HB.out.cell (World.block_lt_of_cell? w _ hw304_5)).trans hw304_5), ((HB.out.cell (World.block_lt_of_cell? w _ hw304_6)).trans hw304_6), ((HB.out.cell (World.block_lt_of_cell? w _ hw304_7)).trans hw304_7), ((HB.out.cell (World.block_lt_of_cell? w _ hw304_8)).trans hw304_8)⟩ (fun hHeld => ?_)
        clear hK K
        refine norm_ (a' := ?_) ?_ ?_
        rotate_left
        ·show Act.put _ (some 25) _ = _
         simp only [Act.put, List.setIfInBounds_toArray, List.set_cons_zero, List.set_cons_succ, i64_w, i32_w]
         rfl
        refine pu_ (i := 9) (N := some 26) b9_0 HT_ ?_
        refine done_ (done_of HT_.out KR) ?_
        try go_wp2
        go_roundg k1
        case measure => have := HK1.out; omega
        case rel => exact ⟨(wrap64 (x5_1 + 1)), (by first | rfl | (simp; done) | (simp [*]; done)), H', ⟨by have := HK1.out; omega⟩, ⟨PB⟩⟩
       ·replace c8 := Bool.eq_false_iff.mpr c8
        subst c8
        have H1 : (some false) = some r := by rw [if_neg (show ¬ (false = true) by decide)] at H; exact H
        clear H
        have H := H1
        clear H1
        obtain rfl := Option.some.inj H
        try go_wp2
        replace HB := ak (below_drew1 HB.out)
        have p303 : 0 ≤ (x5_1 : Int) := of_decide_eq_true (by first | (with_reducible assumption) | assumption)
        have q303 : x5_1 < (l0.length : Int) := of_decide_eq_true (by first | (with_reducible assumption) | assumption)
        obtain ⟨ad303, A303_5, c303_5, e303, hx303_0, hx303_1, hx303_2, hx303_3, hx303_4, hx303_5, hx303_6, hx303_7, hx303_8, hl303_5, hi303_5⟩ := at_T45 HR0.out x5_1 p303 q303
        have hw303_8 := hx303_8
        have hw303_7 := hx303_7
        have hw303_6 := hx303_6
        have hw303_5 := hx303_5
        have hw303_4 := hx303_4
        have hw303_3 := hx303_3
        have hw303_2 := hx303_2
        have hw303_1 := hx303_1
        have hw303_0 := hx303_0
        cases e303
        replace hx303_0 := hx_ HB hx303_0
        replace hx303_1 := hx_ HB hx303_1
        replace hx303_2 := hx_ HB hx303_2
        replace hx303_3 := hx_ HB hx303_3
        replace hx303_4 := hx_ HB hx303_4
        replace hx303_5 := hx_ HB hx303_5
        replace hx303_6 := hx_ HB hx303_6
        replace hx303_7 := hx_ HB hx303_7
        replace hx303_8 := hx_ HB hx303_8
        have HR303_5 := Aside0.mk hi303_5
        have HC303_5 := Aside0.mk hl303_5
        clear hi303_5 hl303_5
        replace p303 := eq_true p303
        replace q303 := eq_true q303
        have p304 : 0 ≤ (x5_1 : Int) := of_decide_eq_true (by first | (with_reducible assumption) | assumption)
        have q304 : x5_1 < (l1.length : Int) := of_decide_eq_true (by first | (with_reducible assumption) | assumption)
        obtain ⟨ad304, A304_5, c304_5, e304, hx304_0, hx304_1, hx304_2, hx304_3, hx304_4, hx304_5, hx304_6, hx304_7, hx304_8, hl304_5, hi304_5⟩ := at_T45 HR1.out x5_1 p304 q304
        have hw304_8 := hx304_8
        have hw304_7 := hx304_7
        have hw304_6 := hx304_6
        have hw304_5 := hx304_5
        have hw304_4 := hx304_4
        have hw304_3 := hx304_3
        have hw304_2 := hx304_2
        have hw304_1 := hx304_1
        have hw304_0 := hx304_0
        cases e304
        replace hx304_0 := hx_ HB hx304_0
        replace hx304_1 := hx_ HB hx304_1
        replace hx304_2 := hx_ HB hx304_2
        replace hx304_3 := hx_ HB hx304_3
        replace hx304_4 := hx_ HB hx304_4
        replace hx304_5 := hx_ HB hx304_5
        replace hx304_6 := hx_ HB hx304_6
        replace hx304_7 := hx_ HB hx304_7
        replace hx304_8 := hx_ HB hx304_8
        have HR304_5 := Aside0.mk hi304_5
        have HC304_5 := Aside0.mk hl304_5
        clear hi304_5 hl304_5
        replace p304 := eq_true p304
        replace q304 := eq_true q304
        refine start_ (n := 10) (S := fun w' => w'.cell? (ad303.add ((x5_1).toNat * 9)) = some (.int .i64 ((rd_T45 l0 x5_1).f0.f0)) ∧ w'.cell? ⟨(ad303.add ((x5_1).toNat * 9)).block, (ad303.add ((x5_1).toNat * 9)).off + 1, none⟩ = some (.int .i64 ((rd_T45 l0 x5_1).f0.f1)) ∧ w'.cell? ⟨(ad303.add ((x5_1).toNat * 9)).block, (ad303.add ((x5_1).toNat * 9)).off + 2, none⟩ = some (.int .i64 ((rd_T45 l0 x5_1).f0.f2)) ∧ w'.cell? ⟨(ad303.add ((x5_1).toNat * 9)).block, (ad303.add ((x5_1).toNat * 9)).off + 3, none⟩ = some (.int .i64 ((rd_T45 l0 x5_1).f1)) ∧ w'.cell? ⟨(ad303.add ((x5_1).toNat * 9)).block, (ad303.add ((x5_1).toNat * 9)).off + 4, none⟩ = some (.int .i64 ((rd_T45 l0 x5_1).f2.f0)) ∧ w'.cell? ⟨(ad303.add ((x5_1).toNat * 9)).block, (ad303.add ((x5_1).toNat * 9)).off + 5, none⟩ = some (.slice A303_5 ((rd_T45 l0 x5_1).f2.f1).length c303_5) ∧ w'.cell? ⟨(ad303.add ((x5_1).toNat * 9)).block, (ad303.add ((x5_1).toNat * 9)).off + 6, none⟩ = some (.int .i64 ((rd_T45 l0 x5_1).f2.f2.f0)) ∧ w'.cell? ⟨(ad303.add ((x5_1).toNat * 9)).block, (ad303.add ((x5_1).toNat * 9)).off + 7, none⟩ = some (.int .i64 ((rd_T45 l0 x5_1).f2.f2.f1)) ∧ w'.cell? ⟨(ad303.add ((x5_1).toNat * 9)).block, (ad303.add ((x5_1).toNat * 9)).off + 8, none⟩ = some (.int .i64 ((rd_T45 l0 x5_1).f2.f2.f2)) ∧ w'.cell? (ad304.add ((x5_1).toNat * 9)) = some (.int .i64 ((rd_T45 l1 x5_1).f0.f0)) ∧ w'.cell? ⟨(ad304.add ((x5_1).toNat * 9)).block, (ad304.add ((x5_1).toNat * 9)).off + 1, none⟩ = some (.int .i64 ((rd_T45 l1 x5_1).f0.f1)) ∧ w'.cell? ⟨(ad304.add ((x5_1).toNat * 9)).block, (ad304.add ((x5_1).toNat * 9)).off + 2, none⟩ = some (.int .i64 ((rd_T45 l1 x5_1).f0.f2)) ∧ w'.cell? ⟨(ad304.add ((x5_1).toNat * 9)).block, (ad304.add ((x5_1).toNat * 9)).off + 3, none⟩ = some (.int .i64 ((rd_T45 l1 x5_1).f1)) ∧ w'.cell? ⟨(ad304.add ((x5_1).toNat * 9)).block, (ad304.add ((x5_1).toNat * 9)).off + 4, none⟩ = some (.int .i64 ((rd_T45 l1 x5_1).f2.f0)) ∧ w'.cell? ⟨(ad304.add ((x5_1).toNat * 9)).block, (ad304.add ((x5_1).toNat * 9)).off + 5, none⟩ = some (.slice A304_5 ((rd_T45 l1 x5_1).f2.f1).length c304_5) ∧ w'.cell? ⟨(ad304.add ((x5_1).toNat * 9)).block, (ad304.add ((x5_1).toNat * 9)).off + 6, none⟩ = some (.int .i64 ((rd_T45 l1 x5_1).f2.f2.f0)) ∧ w'.cell? ⟨(ad304.add ((x5_1).toNat * 9)).block, (ad304.add ((x5_1).toNat * 9)).off + 7, none⟩ = some (.int .i64 ((rd_T45 l1 x5_1).f2.f2.f1)) ∧ w'.cell? ⟨(ad304.add ((x5_1).toNat * 9)).block, (ad304.add ((x5_1).toNat * 9)).off + 8, none⟩ = some (.int .i64 ((rd_T45 l1 x5_1).f2.f2.f2))) (ds := []) b9_10 KR rfl rfl ⟨((HB.out.cell (World.block_lt_of_cell? w _ hw303_0)).trans hw303_0), ((HB.out.cell (World.block_lt_of_cell? w _ hw303_1)).trans hw303_1), ((HB.out.cell (World.block_lt_of_cell? w _ hw303_2)).trans hw303_2), ((HB.out.cell (World.block_lt_of_cell? w _ hw303_3)).trans hw303_3), ((HB.out.cell (World.block_lt_of_cell? w _ hw303_4)).trans hw303_4), ((HB.out.cell (World.block_lt_of_cell? w _ hw303_5)).trans hw303_5), ((HB.out.cell (World.block_lt_of_cell? w _ hw303_6)).trans hw303_6), ((HB.out.cell (World.block_lt_of_cell? w _ hw303_7)).trans hw303_7), ((HB.out.cell (World.block_lt_of_cell? w _ hw303_8)).trans hw303_8), ((HB.out.cell (World.block_lt_of_cell? w _ hw304_0)).trans hw304_0), ((HB.out.cell (World.block_lt_of_cell? w _ hw304_1)).trans hw304_1), ((HB.out.cell (World.block_lt_of_cell? w _ hw304_2)).trans hw304_2), ((HB.out.cell (World.block_lt_of_cell? w _ hw304_3)).trans hw304_3), ((HB.out.cell (World.block_lt_of_cell? w _ hw304_4)).trans hw304_4), ((HB.out.cell (World.block_lt_of_cell? w _ hw304_5)).trans hw304_5), ((HB.out.cell (World.block_lt_of_cell? w _ hw304_6)).trans hw304_6), ((HB.out.cell (World.block_lt_of_cell? w _ hw304_7)).trans hw304_7), ((HB.out.cell (World.block_lt_of_cell? w _ hw304_8)).trans hw304_8)⟩ (fun hHeld => ?_); refine with_tabW laws_eqCaptureS.tab6 laws_eqCaptureS.bits6 (fun HT_ HW_ => ?_)
        generalize wr.drew = w11 at HB HR303_5 HR304_5 hx303_0 hx303_1 hx303_2 hx303_3 hx303_4 hx303_5 hx303_6 hx303_7 hx303_8 hx304_0 hx304_1 hx304_2 hx304_3 hx304_4 hx304_5 hx304_6 hx304_7 hx304_8 hHeld ⊢
        refine pu_ (i := 0) (N := some 17) b9_9 HT_ ?_
        refine pu_ (i := 1) (N := some 18) b9_8 HT_ ?_
        refine pu_ (i := 2) (N := some 19) b9_7 HT_ ?_
        refine pu_ (i := 4) (N := some 21) b9_6 HT_ ?_
        refine pu_ (i := 5) (N := some 22) b9_5 HT_ ?_
        refine pu_ (i := 6) (N := some 23) b9_4 HT_ ?_
        refine tk_ (i := 3) (N := some 20) b9_3 rfl rfl HT_ HW_ hHeld ?_
        refine take_ (i := 7) (N := some 24) (v := ?_) (a' := ?_) b9_2 rfl rfl (take_ofW HT_.out HW_.out KR) (fun _ _ _ h => h) (Or.inl ⟨by rfl, ?_⟩) hHeld ?_ ?_
        rotate_left
        ·rintro w' ⟨s0, s1, s2, s3, s4, s5, s6, s7, s8, s9, s10, s11, s12, s13, s14, s15, s16, s17⟩
         go_simp
         with_reducible rfl
        rotate_left
        ·simp only [Act.put, List.setIfInBounds_toArray, List.set_cons_zero, List.set_cons_succ, i64_w, i32_w]
         rfl
        refine one_ (i := 8) (N := some 25) b9_1 rfl rfl (one_of HT_.out KR) (by decide) (fun K hK => ?_)
        refine goes_ Try.func20 KR rfl #[.agg #[.int .i64 ((rd_T45 l0 x5_1).f0.f0), .int .i64 ((rd_T45 l0 x5_1).f0.f1), .int .i64 ((rd_T45 l0 x5_1).f0.f2), .int .i64 ((rd_T45 l0 x5_1).f1), .int .i64 ((rd_T45 l0 x5_1).f2.f0), .slice A303_5 ((rd_T45 l0 x5_1).f2.f1).length c303_5, .int .i64 ((rd_T45 l0 x5_1).f2.f2.f0), .int .i64 ((rd_T45 l0 x5_1).f2.f2.f1), .int .i64 ((rd_T45 l0 x5_1).f2.f2.f2)], .agg #[.int .i64 ((rd_T45 l1 x5_1).f0.f0), .int .i64 ((rd_T45 l1 x5_1).f0.f1), .int .i64 ((rd_T45 l1 x5_1).f0.f2), .int .i64 ((rd_T45 l1 x5_1).f1), .int .i64 ((rd_T45 l1 x5_1).f2.f0), .slice A304_5 ((rd_T45 l1 x5_1).f2.f1).length c304_5, .int .i64 ((rd_T45 l1 x5_1).f2.f2.f0), .int .i64 ((rd_T45 l1 x5_1).f2.f2.f1), .int .i64 ((rd_T45 l1 x5_1).f2.f2.f2)]] (by rfl) rfl rfl AR ?_
        with_reducible refine (laws_eqCapture.calls k1 ((rd_T45 l0 x5_1).f0.f0) ((rd_T45 l0 x5_1).f0.f1) ((rd_T45 l0 x5_1).f0.f2) ((rd_T45 l0 x5_1).f1) ((rd_T45 l0 x5_1).f2.f0) _ _ ((rd_T45 l0 x5_1).f2.f1) ((rd_T45 l0 x5_1).f2.f2.f0) ((rd_T45 l0 x5_1).f2.f2.f1) ((rd_T45 l0 x5_1).f2.f2.f2) ((rd_T45 l1 x5_1).f0.f0) ((rd_T45 l1 x5_1).f0.f1) ((rd_T45 l1 x5_1).f0.f2) ((rd_T45 l1 x5_1).f1) ((rd_T45 l1 x5_1).f2.f0) _ _ ((rd_T45 l1 x5_1).f2.f1) ((rd_T45 l1 x5_1).f2.f2.f0) ((rd_T45 l1 x5_1).f2.f2.f1) ((rd_T45 l1 x5_1).f2.f2.f2) false _ ?side1 ?side2 ?side3 ?side4 A7.out).mono ?_
        (case side1 => exact CR (Kd.C_below HR303_5.out HB.out))
        (case side2 => exact HC303_5.out)
        (case side3 => exact CR (Kd.C_below HR304_5.out HB.out))
        (case side4 => exact HC304_5.out)
        rintro e w12 ⟨rfl, hb⟩
        refine ⟨_, rfl, ?_⟩
        replace HB := bs HB hb
        (try clear hb)
        (try clear hb2)
        (try clear hk)
        (try clear hi)
        refine hK.out _ _ ⟨((HB.out.cell (World.block_lt_of_cell? w _ hw303_0)).trans hw303_0), ((HB.out.cell (World.block_lt_of_cell? w _ hw303_1)).trans hw303_1), ((HB.out.cell (World.block_lt_of_cell? w _ hw303_2)).trans hw303_2), ((HB.out.cell (World.block_lt_of_cell? w _ hw303_3)).trans hw303_3), ((HB.out.cell (World.block_lt_of_cell? w _ hw303_4)).trans hw303_4), ((HB.out.cell (World.block_lt_of_cell? w _ hw303_5)).trans hw303_5), ((HB.out.cell (World.block_lt_of_cell? w _ hw303_6)).trans hw303_6), ((HB.out.cell (World.block_lt_of_cell? w _ hw303_7)).trans hw303_7), ((HB.out.cell (World.block_lt_of_cell? w _ hw303_8)).trans hw303_8), ((HB.out.cell (World.block_lt_of_cell? w _ hw304_0)).trans hw304_0), ((HB.out.cell (World.block_lt_of_cell? w _ hw304_1)).trans hw304_1), ((HB.out.cell (World.block_lt_of_cell? w _ hw304_2)).trans hw304_2), ((HB.out.cell (World.block_lt_of_cell? w _ hw304_3)).trans hw304_3), ((HB.out.cell (World.block_lt_of_cell? w _ hw304_4)).trans hw304_4), ((HB.out.cell (World.block_lt_of_cell? w _ hw304_5)).trans hw304_5), ((HB.out.cell (World.block_lt_of_cell? w _ hw304_6)).trans hw304_6), ((HB.out.cell (World.block_lt_of_cell? w _ hw304_7)).trans hw304_7), ((HB.out.cell (World.block_lt_of_cell? w _ hw304_8)).trans hw304_8)⟩ (fun hHeld => ?_)
        clear hK K
        refine norm_ (a' := ?_) ?_ ?_
        rotate_left
        ·show Act.put _ (some 25) _ = _
         simp only [Act.put, List.setIfInBounds_toArray, List.set_cons_zero, List.set_cons_succ, i64_w, i32_w]
         rfl
        refine pu_ (i := 9) (N := some 26) b9_0 HT_ ?_
        refine done_ (done_of HT_.out KR) ?_
        try go_wp2
        go_ret
        exact ⟨RT, PB⟩
      ·rw [if_neg c6] at H
       exact absurd H (by simp)
     ·rw [if_neg c5] at H
      exact absurd H (by simp)
    ·rw [if_neg c4] at H
     have c4b0 : decide (x5_1 < (l0.length : Int)) = false := decide_eq_false c4
     clear c4
     obtain rfl := Option.some.inj H
     go_wp2
     go_ret
     exact ⟨RT, PB⟩
 ·rw [if_neg c3] at H
  have c3b0 : ((l0.length : Int) == (l1.length : Int)) = false := beq_eq_false_iff_ne.mpr c3
  have c3b1 : ((l0.length : Int) != (l1.length : Int)) = true := bne_iff_ne.mpr c3
  have c3b2 : (l0.length == l1.length) = false := by first | simpa using c3 | (simp at c3 ⊢; omega)
  obtain rfl := Option.some.inj H
  go_enter Try.func8, Try.ntmps8
  go_wp2
  go_ret
  exact ⟨RT, PB⟩

/-! ### laws_markIntS: function 21 -/
def laws_markIntS.l0 : Nat → List Int → Int → Int → Option (Int × List Int)
  | 0, _, _, _ => none
  | k + 1, x0, x1, x5 => if x5 < (x0.length : Int) then (if 0 ≤ x5 then (laws_markIntS.l0 k (x0.set (x5 : Int).toNat x1) (wrap64 (x1 + 1)) (wrap64 (x5 + 1))) else (none)) else (some (x1, x0))
def laws_markIntS.f (k : Nat) (l0 : List Int) (a1 : Int) : Option (Int × List Int) := laws_markIntS.l0 k l0 a1 0
set_option maxHeartbeats 8000000 in
set_option maxRecDepth 100000 in
theorem laws_markIntS.calls (k : Nat) (P0_ : Nat → Prop) (u9000_ : Value) (l0 : List Int) (a1 : Int) (r1 : Int) (r2 : List Int) (w0 w : World) (hB : Below w0.heap.size w0 w) (ho0 : Kd.R (Kd.int .i64) 3 w w0.heap.size P0_ u9000_ l0) (h : laws_markIntS.f k l0 a1 = some (r1, r2)) :
  Calls Try.prog 21 #[u9000_, .int .i64 a1] w fun e w' => e = .returned (.int .i64 r1) ∧ Kd.R (Kd.int .i64) 3 w' w0.heap.size (fun k_ => (P0_ k_ ∨ w.heap.size ≤ k_)) u9000_ r2 ∧ Below w0.heap.size w0 w' ∧ Kept w w' (fun k_ => P0_ k_) := by
 have HO0 := ak (show Kd.R (Kd.int .i64) 3 w w0.heap.size (fun k_ => (P0_ k_ ∨ w.heap.size ≤ k_)) u9000_ l0 from Kd.R_mono ho0 (fun k_ hk => (.inl hk)))
 have HK := ak (Kept.refl w (fun k_ => P0_ k_))
 have HW0 := Aside0.mk hB.size
 have HB := Aside0.mk hB
 clear hB
 have H : (laws_markIntS.l0 k l0 a1 0) = some (r1, r2) := h
 clear h
 have H' := Aside0.mk H
 clear H
 go_enter Try.func21, Try.ntmps21
 go_wp2
 go_loopg [1, 5] k (fun kq v1 v5 w' => ∃ (x0_1 : List Int) (x1_1 : Int) (x5_1 : Int), v1 = .int .i64 x1_1 ∧ v5 = .int .i64 x5_1 ∧ Aside0 (laws_markIntS.l0 kq x0_1 x1_1 x5_1 = some (r1, r2)) ∧ Aside0 (kq ≤ k) ∧ Aside0 (Kd.R (Kd.int .i64) 3 w' w0.heap.size (fun k_ => (P0_ k_ ∨ w.heap.size ≤ k_)) u9000_ x0_1) ∧ Aside0 (Kept w w' (fun k_ => P0_ k_)) ∧ Aside0 (Below w0.heap.size w0 w'))
 case atStart => exact ⟨(l0), (a1), (0), (by first | rfl | (simp; done) | (simp [*]; done)), (by first | rfl | (simp; done) | (simp [*]; done)), H', ⟨Nat.le_refl _⟩, ⟨PR HO0⟩, ⟨by repeat (first | (with_reducible first | exact HK.out | apply Kept.alloc | apply Kept.drewN | apply Kept.drew) | exact HK.out)⟩, ⟨PB⟩⟩
 case round =>
  clear H'
  (try clear c2); (try clear p2)
  obtain ⟨x0_1, x1_1, x5_1, rfl, rfl, HA, HK1, HO_0, HK, HB⟩ := hrel
  cases gk with
  | zero => exact absurd HA.out (by simp [laws_markIntS.l0])
  | succ k1 =>
   have H := HA.out
   clear HA
   simp only [laws_markIntS.l0] at H
   by_cases c3 : x5_1 < (x0_1.length : Int)
   ·rw [if_pos c3] at H
    have c3b0 : decide (x5_1 < (x0_1.length : Int)) = true := decide_eq_true c3
    clear c3
    by_cases c4 : 0 ≤ x5_1
    ·rw [if_pos c4] at H
     have c4b0 : decide (0 ≤ x5_1) = true := decide_eq_true c4
     clear c4
     obtain ⟨y306, hy306⟩ : ∃ y_ : List Int, y_ = (x0_1.set (x5_1 : Int).toNat x1_1) := ⟨_, rfl⟩
     replace H : (laws_markIntS.l0 k1 y306 (wrap64 (x1_1 + 1)) (wrap64 (x5_1 + 1))) = some (r1, r2) := by first | (rw [hy306]; with_reducible exact H) | (have H2_ := (Option.bind_some _ _).symm.trans H; rw [hy306]; with_reducible exact H2_) | (have H2_ := (Option.bind_some _ _).symm.trans H; with_reducible exact H2_) | with_reducible exact H | (rw [hy306]; exact H) | exact H
     have Ny306 := Aside0.mk hy306
     clear hy306
     have H' := Aside0.mk H
     clear H
     obtain ⟨Ao6, co6, eo6⟩ := Kd.R_slice HO_0.out
     (first | subst eo6 | (injection eo6 with f1_ f2_ f3_; have f4_ := f1_.symm; have f5_ := f3_.symm; clear f1_ f2_ f3_; subst f4_; subst f5_))
     have p5 : 0 ≤ (x5_1 : Int) := of_decide_eq_true (by first | (with_reducible assumption) | assumption)
     have q5 : (x5_1 : Int) < ((x0_1.length : Int) : Int) := of_decide_eq_true (by first | (with_reducible assumption) | assumption)
     obtain ⟨go5, co5, eo5, gb5, gl5, cl5, HG5⟩ := Kd.R_form HO_0.out (by omega)
     (first | cases eo5 | (injection eo5 with ea_ en_ ec_; (first | subst ea_ | (injection ea_ with ea_; subst ea_)); subst ec_; clear en_))
     have GB5 := Aside0.mk gb5
     have GG5 := Aside0.mk HG5
     clear gb5 gl5 HG5
     have HMgo5 := ak (show (P0_ go5 ∨ w.heap.size ≤ go5) from (HO_0.out.1 _ rfl))
     obtain ⟨hx5_0, hf5_0⟩ := Kd.R_celln 0 HO_0.out (x5_1 : Int) p5 q5
     replace p5 := eq_true p5
     replace q5 := eq_true q5
     have HP7 := Kd.R_putg HO_0.out (x5_1 : Int) x1_1
     go_wp2_with (first | ((with_reducible refine gate_store (t := 3) (p := 15) rfl ?_); refine store_event (t := 3) (p := 15) (v := ?vo_w8) (w1 := (wr.setCell ⟨go5, (x5_1 : Int).toNat, none⟩ (.int .i64 x1_1))) ?hg ?ho ?hn ?hr ?_; (case ho => rfl); (case hg => rfl); (case hn => rfl); (case hr => first | (go_simp; done) | (go_simp; rfl)); intro w8 hw; have hg : wr.grownBy w8 (some go5) := (by rw [hw]; exact HP7.2); have hp_ : Kd.R (Kd.int .i64) 3 w8 w0.heap.size (fun k_ => (P0_ k_ ∨ w.heap.size ≤ k_)) (.slice (some ⟨go5, 0, none⟩) x0_1.length co6) y306 := (by rw [hw, Ny306.out]; exact HP7.1); clear HP7; replace HB := ak ((by rw [hw]; exact below_set (HB.out) GB5.out : Below w0.heap.size w0 w8)); replace HK := ak (Kept.of_grown (S := (fun k_ => P0_ k_)) hg (by repeat (first | (with_reducible first | exact HK.out | apply Kept.alloc | apply Kept.drewN | apply Kept.drew) | exact HK.out)) (fun k_ e_ => (HO_0.out.1 k_ e_))); replace HO_0 := ak (hp_); clear hg hw hp_))
     go_roundg k1
     case measure => have := HK1.out; omega
     case rel => exact ⟨(y306), (wrap64 (x1_1 + 1)), (wrap64 (x5_1 + 1)), (by first | rfl | (simp; done) | (simp [*]; done)), (by first | rfl | (simp; done) | (simp [*]; done)), H', ⟨by have := HK1.out; omega⟩, ⟨PR HO_0⟩, ⟨by repeat (first | (with_reducible first | exact HK.out | apply Kept.alloc | apply Kept.drewN | apply Kept.drew) | exact HK.out)⟩, ⟨PB⟩⟩
    ·rw [if_neg c4] at H
     exact absurd H (by simp)
   ·rw [if_neg c3] at H
    have c3b0 : decide (x5_1 < (x0_1.length : Int)) = false := decide_eq_false c3
    clear c3
    simp only [Option.some.injEq, Prod.mk.injEq] at H
    obtain ⟨rfl, rfl⟩ := H
    obtain ⟨Ao9, co9, eo9⟩ := Kd.R_slice HO_0.out
    (first | subst eo9 | (injection eo9 with f1_ f2_ f3_; have f4_ := f1_.symm; have f5_ := f3_.symm; clear f1_ f2_ f3_; subst f4_; subst f5_))
    go_wp2
    go_ret
    exact ⟨RT, by (with_reducible repeat (first | apply Kd.R_alloc | apply Kd.R_drewN | apply Kd.R_drew)); exact HO_0.out, PB, by repeat (first | (with_reducible first | exact HK.out | apply Kept.alloc | apply Kept.drewN | apply Kept.drew) | exact HK.out)⟩

/-! ### laws_heldIntS: function 22 -/
def laws_heldIntS.l0 : Nat → List Int → Int → Int → Option (Int)
  | 0, _, _, _ => none
  | k + 1, x0, x1, x5 => if x5 < (x0.length : Int) then (if 0 ≤ x5 then (if (rd x0 x5) = x1 then (laws_heldIntS.l0 k x0 (wrap64 (x1 + 1)) (wrap64 (x5 + 1))) else (some (-1))) else (none)) else (some x1)
def laws_heldIntS.f (k : Nat) (l0 : List Int) (a1 : Int) : Option (Int) := laws_heldIntS.l0 k l0 a1 0
set_option maxHeartbeats 8000000 in
set_option maxRecDepth 100000 in
theorem laws_heldIntS.calls (k : Nat) (A0 : Option Addr) (c0 : Nat) (l0 : List Int) (a1 : Int) (r : Int) (w : World) (hr0 : Kd.C (Kd.int .i64) w A0 l0.length l0) (hc0 : l0.length ≤ c0) (h : laws_heldIntS.f k l0 a1 = some r) :
  Calls Try.prog 22 #[.slice A0 l0.length c0, .int .i64 a1] w fun e w' => e = .returned (.int .i64 r) ∧ Drawn0 w w' := by
 have HR0 := Aside0.mk hr0
 have HC0 := Aside0.mk hc0
 clear hr0 hc0
 have H : (laws_heldIntS.l0 k l0 a1 0) = some r := h
 clear h
 have H' := Aside0.mk H
 clear H
 go_enter Try.func22, Try.ntmps22
 go_wp2
 go_loopg [1, 5] k (fun kq v1 v5 w' => ∃ (x1_1 : Int) (x5_1 : Int), v1 = .int .i64 x1_1 ∧ v5 = .int .i64 x5_1 ∧ Aside0 (laws_heldIntS.l0 kq l0 x1_1 x5_1 = some r) ∧ Aside0 (kq ≤ k) ∧ Drawn0 w w')
 case atStart => exact ⟨(a1), (0), (by first | rfl | (simp; done) | (simp [*]; done)), (by first | rfl | (simp; done) | (simp [*]; done)), H', ⟨Nat.le_refl _⟩, by repeat (first | exact Drawn0.refl _ | apply Drawn0.step)⟩
 case round =>
  clear H'
  (try clear c2); (try clear p2)
  obtain ⟨x1_1, x5_1, rfl, rfl, HA, HK1, ⟨m1, rfl⟩⟩ := hrel
  cases gk with
  | zero => exact absurd HA.out (by simp [laws_heldIntS.l0])
  | succ k1 =>
   have H := HA.out
   clear HA
   simp only [laws_heldIntS.l0] at H
   by_cases c3 : x5_1 < (l0.length : Int)
   ·rw [if_pos c3] at H
    have c3b0 : decide (x5_1 < (l0.length : Int)) = true := decide_eq_true c3
    clear c3
    by_cases c4 : 0 ≤ x5_1
    ·rw [if_pos c4] at H
     have c4b0 : decide (0 ≤ x5_1) = true := decide_eq_true c4
     clear c4
     by_cases c5 : (rd l0 x5_1) = x1_1
     ·rw [if_pos c5] at H
      have c5b0 : ((rd l0 x5_1) == x1_1) = true := beq_iff_eq.mpr c5
      have c5b1 : ((rd l0 x5_1) != x1_1) = false := bne_eq_false_iff_eq.mpr c5
      clear c5
      have H' := Aside0.mk H
      clear H
      have p307 : 0 ≤ (x5_1 : Int) := of_decide_eq_true (by first | (with_reducible assumption) | assumption)
      have q307 : x5_1 < (l0.length : Int) := of_decide_eq_true (by first | (with_reducible assumption) | assumption)
      obtain ⟨ad307, e307, hx307_0⟩ := Kd.at_int HR0.out x5_1 p307 q307
      cases e307
      replace p307 := eq_true p307
      replace q307 := eq_true q307
      go_wp2
      go_roundg k1
      case measure => have := HK1.out; omega
      case rel => exact ⟨(wrap64 (x1_1 + 1)), (wrap64 (x5_1 + 1)), (by first | rfl | (simp; done) | (simp [*]; done)), (by first | rfl | (simp; done) | (simp [*]; done)), H', ⟨by have := HK1.out; omega⟩, by repeat (first | exact Drawn0.refl _ | apply Drawn0.step)⟩
     ·rw [if_neg c5] at H
      have c5b0 : ((rd l0 x5_1) == x1_1) = false := beq_eq_false_iff_ne.mpr c5
      have c5b1 : ((rd l0 x5_1) != x1_1) = true := bne_iff_ne.mpr c5
      obtain rfl := Option.some.inj H
      have p307 : 0 ≤ (x5_1 : Int) := of_decide_eq_true (by first | (with_reducible assumption) | assumption)
      have q307 : x5_1 < (l0.length : Int) := of_decide_eq_true (by first | (with_reducible assumption) | assumption)
      obtain ⟨ad307, e307, hx307_0⟩ := Kd.at_int HR0.out x5_1 p307 q307
      cases e307
      replace p307 := eq_true p307
      replace q307 := eq_true q307
      go_wp2
      go_ret
      exact ⟨by first | rfl | (simp; done) | (simp [*]; done), by repeat (first | exact Drawn0.refl _ | apply Drawn0.step)⟩
    ·rw [if_neg c4] at H
     exact absurd H (by simp)
   ·rw [if_neg c3] at H
    have c3b0 : decide (x5_1 < (l0.length : Int)) = false := decide_eq_false c3
    clear c3
    obtain rfl := Option.some.inj H
    go_wp2
    go_ret
    exact ⟨by first | rfl | (simp; done) | (simp [*]; done), by repeat (first | exact Drawn0.refl _ | apply Drawn0.step)⟩

end Go.Proofs.Ytmcfdpodoebokaa.MFnExactAddCaptures
