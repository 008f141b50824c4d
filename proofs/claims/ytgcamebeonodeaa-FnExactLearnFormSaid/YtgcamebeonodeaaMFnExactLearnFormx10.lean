-- Written by a program of this session out of the translation's own print. Not trusted: Lean checks it.
import Derived.Test.YtgcamebeonodeaaShr2
import Derived.Test.YtgcamebeonodeaaMFnExactLearnFormx0
import Derived.Test.YtgcamebeonodeaaMFnExactLearnFormx9
namespace Go.Proofs.Ytgcamebeonodeaa.MFnExactLearnForm
open Go.RowKit Go.Proofs.YtgcamebeonodeaaW.PrintWords Go.Proofs.YtgcamebeonodeaaW.PrintLast Go.Proofs.YtgcamebeonodeaaW.PrintMore
attribute [local go_sem] max2_int min2_int max_two min_two max_three min_three max_four min_four   -- for this text's walks alone
set_option linter.unusedVariables false
set_option linter.unusedSimpArgs false

/-! ### laws_eqCaptureS: function 53 -/
def laws_eqCaptureS.l0 : Nat → List (S40) → List (S40) → Int → Option (Bool)
  | 0, _, _, _ => none
  | k + 1, x0, x1, x5 => if x5 < (x0.length : Int) then (if 0 ≤ x5 then (if x5 < (x1.length : Int) then ((laws_eqCapture.f k ((rd_T40 x0 x5).f0.f0) ((rd_T40 x0 x5).f0.f1) ((rd_T40 x0 x5).f0.f2) ((rd_T40 x0 x5).f1) ((rd_T40 x0 x5).f2.f0) ((rd_T40 x0 x5).f2.f1) ((rd_T40 x0 x5).f2.f2.f0) ((rd_T40 x0 x5).f2.f2.f1) ((rd_T40 x0 x5).f2.f2.f2) ((rd_T40 x1 x5).f0.f0) ((rd_T40 x1 x5).f0.f1) ((rd_T40 x1 x5).f0.f2) ((rd_T40 x1 x5).f1) ((rd_T40 x1 x5).f2.f0) ((rd_T40 x1 x5).f2.f1) ((rd_T40 x1 x5).f2.f2.f0) ((rd_T40 x1 x5).f2.f2.f1) ((rd_T40 x1 x5).f2.f2.f2)).bind fun t288 => (if t288 = true then (laws_eqCaptureS.l0 k x0 x1 (wrap64 (x5 + 1))) else (some false))) else (none)) else (none)) else (some true)
def laws_eqCaptureS.f (k : Nat) (l0 : List (S40)) (l1 : List (S40)) : Option (Bool) := if (l0.length : Int) = (l1.length : Int) then (laws_eqCaptureS.l0 k l0 l1 0) else (some false)
def laws_eqCaptureS.T6 : Bool × List (List Nat × List Nat) := (true, [([], []), ([], []), ([0, 1], [0, 1]), ([2], [2]), ([], []), ([], []), ([4, 5], [4, 5]), ([6], [6]), ([3, 7], [3, 7]), ([8], [8])])
def laws_eqCaptureS.B6 : List Nat := [0, 0, 3, 7, 0, 0, 48, 112, 255, 511]
theorem laws_eqCaptureS.tab6 : rtab .any (opsOf Try.f53 6) = laws_eqCaptureS.T6 := by kernel_rfl
theorem laws_eqCaptureS.bits6 : waitsOk laws_eqCaptureS.T6.2 laws_eqCaptureS.B6 = true := by kernel_rfl
set_option maxHeartbeats 8000000 in
set_option maxRecDepth 100000 in
theorem laws_eqCaptureS.calls (k : Nat) (A0 : Option Addr) (c0 : Nat) (l0 : List (S40)) (A1 : Option Addr) (c1 : Nat) (l1 : List (S40)) (r : Bool) (w : World) (hr0 : Kd.C k40 w A0 l0.length l0) (hc0 : l0.length ≤ c0) (hr1 : Kd.C k40 w A1 l1.length l1) (hc1 : l1.length ≤ c1) (hT_ : r = true) (h : laws_eqCaptureS.f k l0 l1 = some r) :
  Calls Try.prog 53 #[.slice A0 l0.length c0, .slice A1 l1.length c1] w fun e w' => e = .returned (.bool r) ∧ Below w.heap.size w w' := by
 have hu40 := Try.underlying40
 have HR0 := Aside0.mk hr0
 have HC0 := Aside0.mk hc0
 clear hr0 hc0
 have HR1 := Aside0.mk hr1
 have HC1 := Aside0.mk hc1
 clear hr1 hc1
 have HB := ak (Below.refl w.heap.size w)
 have H : (if (l0.length : Int) = (l1.length : Int) then (laws_eqCaptureS.l0 k l0 l1 0) else (some false)) = some r := h
 clear h
 by_cases c3 : (l0.length : Int) = (l1.length : Int)
 ·rw [if_pos c3] at H
  have c3b0 : ((l0.length : Int) == (l1.length : Int)) = true := beq_iff_eq.mpr c3
  have c3b1 : ((l0.length : Int) != (l1.length : Int)) = false := bne_eq_false_iff_eq.mpr c3
  have c3b2 : (l0.length == l1.length) = true := by first | simpa using c3 | (simp at c3 ⊢; omega)
  clear c3
  have H' := Aside0.mk H
  clear H
  go_enter Try.func53, Try.ntmps53
  go_wp2
  go_loopg [5] k (fun kq v5 w' => ∃ (x5_1 : Int), v5 = .int .i64 x5_1 ∧ Aside0 (laws_eqCaptureS.l0 kq l0 l1 x5_1 = some r) ∧ Aside0 (kq ≤ k) ∧ Aside0 (Below w.heap.size w w'))
  case atStart => exact ⟨(0), (by first | rfl | (simp; done) | (simp [*]; done)), H', ⟨Nat.le_refl _⟩, ⟨PB⟩⟩
  case round =>
   clear H'
   (try clear c1); (try clear p2); (try clear c3); (try clear c3b0); (try clear c3b1); (try clear c3b2)
   obtain ⟨x5_1, rfl, HA, HK1, HB⟩ := hrel
   cases gk with
   | zero => exact absurd HA.out (by simp [laws_eqCaptureS.l0])
   | succ k1 =>
    have H := HA.out
    clear HA
    simp only [laws_eqCaptureS.l0] at H
    by_cases c4 : x5_1 < (l0.length : Int)
    ·rw [if_pos c4] at H
     have c4b0 : decide (x5_1 < (l0.length : Int)) = true := decide_eq_true c4
     clear c4
     by_cases c5 : 0 ≤ x5_1
     ·rw [if_pos c5] at H
      have c5b0 : decide (0 ≤ x5_1) = true := decide_eq_true c5
      clear c5
      by_cases c6 : x5_1 < (l1.length : Int)
      ·rw [if_pos c6] at H
       have c6b0 : decide (x5_1 < (l1.length : Int)) = true := decide_eq_true c6
       clear c6
       replace H := Option.bind_eq_some_iff.mp H
       obtain ⟨t288, A70, H⟩ := H
       replace H : (if t288 = true then (laws_eqCaptureS.l0 k1 l0 l1 (wrap64 (x5_1 + 1))) else (some false)) = some r := H
       have A7 := Aside0.mk A70
       clear A70
       by_cases c8 : t288 = true
       ·subst c8
        have H1 : (laws_eqCaptureS.l0 k1 l0 l1 (wrap64 (x5_1 + 1))) = some r := by rw [if_pos rfl] at H; exact H
        clear H
        have H := H1
        clear H1
        have H' := Aside0.mk H
        clear H
        try go_wp2
        replace HB := ak (below_drew1 HB.out)
        have p286 : 0 ≤ (x5_1 : Int) := of_decide_eq_true (by first | (with_reducible assumption) | assumption)
        have q286 : x5_1 < (l0.length : Int) := of_decide_eq_true (by first | (with_reducible assumption) | assumption)
        obtain ⟨ad286, A286_5, c286_5, e286, hx286_0, hx286_1, hx286_2, hx286_3, hx286_4, hx286_5, hx286_6, hx286_7, hx286_8, hl286_5, hi286_5⟩ := at_T40 HR0.out x5_1 p286 q286
        have hw286_8 := hx286_8
        have hw286_7 := hx286_7
        have hw286_6 := hx286_6
        have hw286_5 := hx286_5
        have hw286_4 := hx286_4
        have hw286_3 := hx286_3
        have hw286_2 := hx286_2
        have hw286_1 := hx286_1
        have hw286_0 := hx286_0
        cases e286
        replace hx286_0 := hx_ HB hx286_0
        replace hx286_1 := hx_ HB hx286_1
        replace hx286_2 := hx_ HB hx286_2
        replace hx286_3 := hx_ HB hx286_3
        replace hx286_4 := hx_ HB hx286_4
        replace hx286_5 := hx_ HB hx286_5
        replace hx286_6 := hx_ HB hx286_6
        replace hx286_7 := hx_ HB hx286_7
        replace hx286_8 := hx_ HB hx286_8
        have HR286_5 := Aside0.mk hi286_5
        have HC286_5 := Aside0.mk hl286_5
        clear hi286_5 hl286_5
        replace p286 := eq_true p286
        replace q286 := eq_true q286
        have p287 : 0 ≤ (x5_1 : Int) := of_decide_eq_true (by first | (with_reducible assumption) | assumption)
        have q287 : x5_1 < (l1.length : Int) := of_decide_eq_true (by first | (with_reducible assumption) | assumption)
        obtain ⟨ad287, A287_5, c287_5, e287, hx287_0, hx287_1, hx287_2, hx287_3, hx287_4, hx287_5, hx287_6, hx287_7, hx287_8, hl287_5, hi287_5⟩ := at_T40 HR1.out x5_1 p287 q287
        have hw287_8 := hx287_8
        have hw287_7 := hx287_7
        have hw287_6 := hx287_6
        have hw287_5 := hx287_5
        have hw287_4 := hx287_4
        have hw287_3 := hx287_3
        have hw287_2 := hx287_2
        have hw287_1 := hx287_1
        have hw287_0 := hx287_0
        cases e287
        replace hx287_0 := hx_ HB hx287_0
        replace hx287_1 := hx_ HB hx287_1
        replace hx287_2 := hx_ HB hx287_2
        replace hx287_3 := hx_ HB hx287_3
        replace hx287_4 := hx_ HB hx287_4
        replace hx287_5 := hx_ HB hx287_5
        replace hx287_6 := hx_ HB hx287_6
        replace hx287_7 := hx_ HB hx287_7
        replace hx287_8 := hx_ HB hx287_8
        have HR287_5 := Aside0.mk hi287_5
        have HC287_5 := Aside0.mk hl287_5
        clear hi287_5 hl287_5
        replace p287 := eq_true p287
        replace q287 := eq_true q287
        refine start_ (n := 10) (S := fun w' => w'.cell? (ad286.add ((x5_1).toNat * 9)) = some (.int .i64 ((rd_T40 l0 x5_1).f0.f0)) ∧ w'.cell? ⟨(ad286.add ((x5_1).toNat * 9)).block, (ad286.add ((x5_1).toNat * 9)).off + 1, none⟩ = some (.int .i64 ((rd_T40 l0 x5_1).f0.f1)) ∧ w'.cell? ⟨(ad286.add ((x5_1).toNat * 9)).block, (ad286.add ((x5_1).toNat * 9)).off + 2, none⟩ = some (.int .i64 ((rd_T40 l0 x5_1).f0.f2)) ∧ w'.cell? ⟨(ad286.add ((x5_1).toNat * 9)).block, (ad286.add ((x5_1).toNat * 9)).off + 3, none⟩ = some (.int .i64 ((rd_T40 l0 x5_1).f1)) ∧ w'.cell? ⟨(ad286.add ((x5_1).toNat * 9)).block, (ad286.add ((x5_1).toNat * 9)).off + 4, none⟩ = some (.int .i64 ((rd_T40 l0 x5_1).f2.f0)) ∧ w'.cell? ⟨(ad286.add ((x5_1).toNat * 9)).block, (ad286.add ((x5_1).toNat * 9)).off + 5, none⟩ = some (.slice A286_5 ((rd_T40 l0 x5_1).f2.f1).length c286_5) ∧ w'.cell? ⟨(ad286.add ((x5_1).toNat * 9)).block, (ad286.add ((x5_1).toNat * 9)).off + 6, none⟩ = some (.int .i64 ((rd_T40 l0 x5_1).f2.f2.f0)) ∧ w'.cell? ⟨(ad286.add ((x5_1).toNat * 9)).block, (ad286.add ((x5_1).toNat * 9)).off + 7, none⟩ = some (.int .i64 ((rd_T40 l0 x5_1).f2.f2.f1)) ∧ w'.cell? ⟨(ad286.add ((x5_1).toNat * 9)).block, (ad286.add ((x5_1).toNat * 9)).off + 8, none⟩ = some (.int .i64 ((rd_T40 l0 x5_1).f2.f2.f2)) ∧ w'.cell? (ad287.add ((x5_1).toNat * 9)) = some (.int .i64 ((rd_T40 l1 x5_1).f0.f0)) ∧ w'.cell? ⟨(ad287.add ((x5_1).toNat * 9)).block, (ad287.add ((x5_1).toNat * 9)).off + 1, none⟩ = some (.int .i64 ((rd_T40 l1 x5_1).f0.f1)) ∧ w'.cell? ⟨(ad287.add ((x5_1).toNat * 9)).block, (ad287.add ((x5_1).toNat * 9)).off + 2, none⟩ = some (.int .i64 ((rd_T40 l1 x5_1).f0.f2)) ∧ w'.cell? ⟨(ad287.add ((x5_1).toNat * 9)).block, (ad287.add ((x5_1).toNat * 9)).off + 3, none⟩ = some (.int .i64 ((rd_T40 l1 x5_1).f1)) ∧ w'.cell? ⟨(ad287.add ((x5_1).toNat * 9)).block, (ad287.add ((x5_1).toNat * 9)).off + 4, none⟩ = some (.int .i64 ((rd_T40 l1 x5_1).f2.f0)) ∧ w'.cell? ⟨(ad287.add ((x5_1).toNat * 9)).block, (ad287.add ((x5_1).toNat * 9)).off + 5, none⟩ = some (.slice A287_5 ((rd_T40 l1 x5_1).f2.f1).length c287_5) ∧ w'.cell? ⟨(ad287.add ((x5_1).toNat * 9)).block, (ad287.add ((x5_1).toNat * 9)).off + 6, none⟩ = some (.int .i64 ((rd_T40 l1 x5_1).f2.f2.f0)) ∧ w'.cell? ⟨(ad287.add ((x5_1).toNat * 9)).block, (ad287.add ((x5_1).toNat * 9)).off + 7, none⟩ = some (.int .i64 ((rd_T40 l1 x5_1).f2.f2.f1)) ∧ w'.cell? ⟨(ad287.add ((x5_1).toNat * 9)).block, (ad287.add ((x5_1).toNat * 9)).off + 8, none⟩ = some (.int .i64 ((rd_T40 l1 x5_1).f2.f2.f2))) (ds := []) #[false, false, false, false, false, false, false, false, false, false] KR rfl rfl ⟨((HB.out.cell (World.block_lt_of_cell? w _ hw286_0)).trans hw286_0), ((HB.out.cell (World.block_lt_of_cell? w _ hw286_1)).trans hw286_1), ((HB.out.cell (World.block_lt_of_cell? w _ hw286_2)).trans hw286_2), ((HB.out.cell (World.block_lt_of_cell? w _ hw286_3)).trans hw286_3), ((HB.out.cell (World.block_lt_of_cell? w _ hw286_4)).trans hw286_4), ((HB.out.cell (World.block_lt_of_cell? w _ hw286_5)).trans hw286_5), ((HB.out.cell (World.block_lt_of_cell? w _ hw286_6)).trans hw286_6), ((HB.out.cell (World.block_lt_of_cell? w _ hw286_7)).trans hw286_7), ((HB.out.cell (World.block_lt_of_cell? w _ hw286_8)).trans hw286_8), ((HB.out.cell (World.block_lt_of_cell? w _ hw287_0)).trans hw287_0), ((HB.out.cell (World.block_lt_of_cell? w _ hw287_1)).trans hw287_1), ((HB.out.cell (World.block_lt_of_cell? w _ hw287_2)).trans hw287_2), ((HB.out.cell (World.block_lt_of_cell? w _ hw287_3)).trans hw287_3), ((HB.out.cell (World.block_lt_of_cell? w _ hw287_4)).trans hw287_4), ((HB.out.cell (World.block_lt_of_cell? w _ hw287_5)).trans hw287_5), ((HB.out.cell (World.block_lt_of_cell? w _ hw287_6)).trans hw287_6), ((HB.out.cell (World.block_lt_of_cell? w _ hw287_7)).trans hw287_7), ((HB.out.cell (World.block_lt_of_cell? w _ hw287_8)).trans hw287_8)⟩ (fun hHeld => ?_); refine with_tabW laws_eqCaptureS.tab6 laws_eqCaptureS.bits6 (fun HT_ HW_ => ?_)
        generalize wr.drew = w9 at HB HR286_5 HR287_5 hx286_0 hx286_1 hx286_2 hx286_3 hx286_4 hx286_5 hx286_6 hx286_7 hx286_8 hx287_0 hx287_1 hx287_2 hx287_3 hx287_4 hx287_5 hx287_6 hx287_7 hx287_8 hHeld ⊢
        refine pu_ (i := 0) (N := some 17) #[true, false, false, false, false, false, false, false, false, false] HT_ ?_
        refine pu_ (i := 1) (N := some 18) #[true, true, false, false, false, false, false, false, false, false] HT_ ?_
        refine pu_ (i := 2) (N := some 19) #[true, true, true, false, false, false, false, false, false, false] HT_ ?_
        refine pu_ (i := 4) (N := some 21) #[true, true, true, false, true, false, false, false, false, false] HT_ ?_
        refine pu_ (i := 5) (N := some 22) #[true, true, true, false, true, true, false, false, false, false] HT_ ?_
        refine pu_ (i := 6) (N := some 23) #[true, true, true, false, true, true, true, false, false, false] HT_ ?_
        refine tk_ (i := 3) (N := some 20) #[true, true, true, true, true, true, true, false, false, false] rfl rfl HT_ HW_ hHeld ?_
        refine take_ (i := 7) (N := some 24) (v := ?_) (a' := ?_) #[true, true, true, true, true, true, true, true, false, false] rfl rfl (take_ofW HT_.out HW_.out KR) (fun _ _ _ h => h) (Or.inl ⟨by rfl, ?_⟩) hHeld ?_ ?_
        rotate_left
        ·rintro w' ⟨s0, s1, s2, s3, s4, s5, s6, s7, s8, s9, s10, s11, s12, s13, s14, s15, s16, s17⟩
         go_simp
         with_reducible rfl
        rotate_left
        ·simp only [Act.put, List.setIfInBounds_toArray, List.set_cons_zero, List.set_cons_succ, i64_w, i32_w]
         rfl
        refine one_ (i := 8) (N := some 25) #[true, true, true, true, true, true, true, true, true, false] rfl rfl (one_of HT_.out KR) (by decide) (fun K hK => ?_)
        refine goes_ Try.func117 KR rfl #[.agg #[.int .i64 ((rd_T40 l0 x5_1).f0.f0), .int .i64 ((rd_T40 l0 x5_1).f0.f1), .int .i64 ((rd_T40 l0 x5_1).f0.f2), .int .i64 ((rd_T40 l0 x5_1).f1), .int .i64 ((rd_T40 l0 x5_1).f2.f0), .slice A286_5 ((rd_T40 l0 x5_1).f2.f1).length c286_5, .int .i64 ((rd_T40 l0 x5_1).f2.f2.f0), .int .i64 ((rd_T40 l0 x5_1).f2.f2.f1), .int .i64 ((rd_T40 l0 x5_1).f2.f2.f2)], .agg #[.int .i64 ((rd_T40 l1 x5_1).f0.f0), .int .i64 ((rd_T40 l1 x5_1).f0.f1), .int .i64 ((rd_T40 l1 x5_1).f0.f2), .int .i64 ((rd_T40 l1 x5_1).f1), .int .i64 ((rd_T40 l1 x5_1).f2.f0), .slice A287_5 ((rd_T40 l1 x5_1).f2.f1).length c287_5, .int .i64 ((rd_T40 l1 x5_1).f2.f2.f0), .int .i64 ((rd_T40 l1 x5_1).f2.f2.f1), .int .i64 ((rd_T40 l1 x5_1).f2.f2.f2)]] (by rfl) rfl rfl AR ?_
        with_reducible refine (laws_eqCapture.calls k1 ((rd_T40 l0 x5_1).f0.f0) ((rd_T40 l0 x5_1).f0.f1) ((rd_T40 l0 x5_1).f0.f2) ((rd_T40 l0 x5_1).f1) ((rd_T40 l0 x5_1).f2.f0) _ _ ((rd_T40 l0 x5_1).f2.f1) ((rd_T40 l0 x5_1).f2.f2.f0) ((rd_T40 l0 x5_1).f2.f2.f1) ((rd_T40 l0 x5_1).f2.f2.f2) ((rd_T40 l1 x5_1).f0.f0) ((rd_T40 l1 x5_1).f0.f1) ((rd_T40 l1 x5_1).f0.f2) ((rd_T40 l1 x5_1).f1) ((rd_T40 l1 x5_1).f2.f0) _ _ ((rd_T40 l1 x5_1).f2.f1) ((rd_T40 l1 x5_1).f2.f2.f0) ((rd_T40 l1 x5_1).f2.f2.f1) ((rd_T40 l1 x5_1).f2.f2.f2) true _ ?side1 ?side2 ?side3 ?side4 rfl A7.out).mono ?_
        (case side1 => exact CR (Kd.C_below HR286_5.out HB.out))
        (case side2 => exact HC286_5.out)
        (case side3 => exact CR (Kd.C_below HR287_5.out HB.out))
        (case side4 => exact HC287_5.out)
        rintro e w10 ⟨rfl, hb⟩
        refine ⟨_, rfl, ?_⟩
        replace HB := bs HB hb
        (try clear hb)
        (try clear hb2)
        (try clear hk)
        (try clear hi)
        refine hK.out _ _ ⟨((HB.out.cell (World.block_lt_of_cell? w _ hw286_0)).trans hw286_0), ((HB.out.cell (World.block_lt_of_cell? w _ hw286_1)).trans hw286_1), ((HB.out.cell (World.block_lt_of_cell? w _ hw286_2)).trans hw286_2), ((HB.out.cell (World.block_lt_of_cell? w _ hw286_3)).trans hw286_3), ((HB.out.cell (World.block_lt_of_cell? w _ hw286_4)).trans hw286_4), ((HB.out.cell (World.block_lt_of_cell? w _ hw286_5)).trans hw286_5), ((HB.out.cell (World.block_lt_of_cell? w _ hw286_6)).trans hw286_6), ((HB.out.cell (World.block_lt_of_cell? w _ hw286_7)).trans hw286_7), ((HB.out.cell (World.block_lt_of_cell? w _ hw286_8)).trans hw286_8), ((HB.out.cell (World.block_lt_of_cell? w _ hw287_0)).trans hw287_0), ((HB.out.cell (World.block_lt_of_cell? w _ hw287_1)).trans hw287_1), ((HB.out.cell (World.block_lt_of_cell? w _ hw287_2)).trans hw287_2), ((HB.out.cell (World.block_lt_of_cell? w _ hw287_3)).trans hw287_3), ((HB.out.cell (World.block_lt_of_cell? w _ hw287_4)).trans hw287_4), ((HB.out.cell (World.block_lt_of_cell? w _ hw287_5)).trans hw287_5), ((HB.out.cell (World.block_lt_of_cell? w _ hw287_6)).trans hw287_6), ((HB.out.cell (World.block_lt_of_cell? w _ hw287_7)).trans hw287_7), ((HB.out.cell (World.block_lt_of_cell? w _ hw287_8)).trans hw287_8)⟩ (fun hHeld => ?_)
        clear hK K
        refine norm_ (a' := ?_) ?_ ?_
        rotate_left
        ·show Act.put _ (some 25) _ = _
         simp only [Act.put, List.setIfInBounds_toArray, List.set_cons_zero, List.set_cons_succ, i64_w, i32_w]
         rfl
        refine pu_ (i := 9) (N := some 26) #[true, true, true, true, true, true, true, true, true, true] HT_ ?_
        refine done_ (done_of HT_.out KR) ?_
        try go_wp2
        go_roundg k1
        case measure => have := HK1.out; omega
        case rel => exact ⟨(wrap64 (x5_1 + 1)), (by first | rfl | (simp; done) | (simp [*]; done)), H', ⟨by have := HK1.out; omega⟩, ⟨PB⟩⟩
       ·replace c8 := Bool.eq_false_iff.mpr c8
        subst c8
        have H1 : (some false) = some r := by rw [if_neg (show ¬ (false = true) by decide)] at H; exact H
        clear H
        have H := H1
        clear H1
        cases (Option.some.inj H).trans hT_
      ·rw [if_neg c6] at H
       exact absurd H (by simp)
     ·rw [if_neg c5] at H
      exact absurd H (by simp)
    ·rw [if_neg c4] at H
     have c4b0 : decide (x5_1 < (l0.length : Int)) = false := decide_eq_false c4
     clear c4
     obtain rfl := Option.some.inj H
     go_wp2
     go_ret
     exact ⟨RT, PB⟩
 ·rw [if_neg c3] at H
  have c3b0 : ((l0.length : Int) == (l1.length : Int)) = false := beq_eq_false_iff_ne.mpr c3
  have c3b1 : ((l0.length : Int) != (l1.length : Int)) = true := bne_iff_ne.mpr c3
  have c3b2 : (l0.length == l1.length) = false := by first | simpa using c3 | (simp at c3 ⊢; omega)
  cases (Option.some.inj H).trans hT_
end Go.Proofs.Ytgcamebeonodeaa.MFnExactLearnForm

