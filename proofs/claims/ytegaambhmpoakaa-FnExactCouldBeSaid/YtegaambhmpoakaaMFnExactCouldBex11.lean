-- Written by a program of this session out of the translation's own print. Not trusted: Lean checks it.
import Derived.Test.YtegaambhmpoakaaMFnExactCouldBex0
import Derived.Test.YtegaambhmpoakaaMFnExactCouldBex2
import Derived.Test.YtegaambhmpoakaaMFnExactCouldBex3
import Derived.Test.YtegaambhmpoakaaMFnExactCouldBex10
namespace Go.Proofs.Ytegaambhmpoakaa.MFnExactCouldBe
open Go.RowKit Go.Proofs.YtegaambhmpoakaaW.PrintWords Go.Proofs.YtegaambhmpoakaaW.PrintLast Go.Proofs.YtegaambhmpoakaaW.PrintMore
attribute [local go_sem] max2_int min2_int max_two min_two max_three min_three max_four min_four   -- for this text's walks alone
set_option linter.unusedVariables false
set_option linter.unusedSimpArgs false

/-! ### impl_CouldBe: function 61 -/
mutual
def impl_CouldBe.l0 : Nat → List (S179) → List (S93) → List Int → Int → Option (Bool)
  | 0, _, _, _, _ => none
  | k + 1, x0, x1, x7, x28 => if x28 < 1001 then (impl_CouldBe.l1 k x0 x1 x7 x28 true x28 x7 (x7.length : Int) 0) else (some false)
def impl_CouldBe.l1 : Nat → List (S179) → List (S93) → List Int → Int → Bool → Int → List Int → Int → Int → Option (Bool)
  | 0, _, _, _, _, _, _, _, _, _ => none
  | k + 1, x0, x1, x7, x8, x9, x28, x31, x32, x33 => if x33 < x32 then (if 0 ≤ x33 then (if x33 < (x31.length : Int) then (if 0 ≤ (rd x31 x33) then (if (rd x31 x33) < (x1.length : Int) then ((impl_FollowAt.f k x0 ((rd_T93 x1 (rd x31 x33)).f0.f0) ((rd_T93 x1 (rd x31 x33)).f0.f1) ((rd_T93 x1 (rd x31 x33)).f0.f2) x8).bind fun bt402 => ((impl_EqualResources.f k bt402.1 bt402.2.1 bt402.2.2.1 bt402.2.2.2.1 bt402.2.2.2.2.1 ((rd_T93 x1 (rd x31 x33)).f2.f0) ((rd_T93 x1 (rd x31 x33)).f2.f1) ((rd_T93 x1 (rd x31 x33)).f2.f2.f0) ((rd_T93 x1 (rd x31 x33)).f2.f2.f1) ((rd_T93 x1 (rd x31 x33)).f2.f2.f2)).bind fun t414 => (if t414 = true then (impl_CouldBe.l1 k x0 x1 x7 x8 x9 x28 x31 x32 (wrap64 (x33 + 1))) else (impl_CouldBe.l0 k x0 x1 x7 (wrap64 (x28 + 1)))))) else (none)) else (none)) else (none)) else (none)) else (if x9 = true then (some true) else (impl_CouldBe.l0 k x0 x1 x7 (wrap64 (x28 + 1))))
end
def impl_CouldBe.f (k : Nat) (l0 : List (S179)) (l1 : List (S93)) (a2 : Int) : Option (Bool) := (impl_CapturesIn.f k a2).bind fun t396 => (if (t396.length : Int) = 0 then (some true) else (if 0 ≤ (wrap64 ((t396.length : Int) - 1)) then (if (wrap64 ((t396.length : Int) - 1)) < (t396.length : Int) then (if (rd t396 (wrap64 ((t396.length : Int) - 1))) ≥ (l1.length : Int) then (some false) else (impl_CouldBe.l0 k l0 l1 t396 0)) else (none)) else (none)))
theorem impl_CouldBe.mono_l : ∀ k, (∀ y0 y1 y2 y3, LeO (impl_CouldBe.l0 k y0 y1 y2 y3) (impl_CouldBe.l0 (k + 1) y0 y1 y2 y3)) ∧ (∀ y0 y1 y2 y3 y4 y5 y6 y7 y8, LeO (impl_CouldBe.l1 k y0 y1 y2 y3 y4 y5 y6 y7 y8) (impl_CouldBe.l1 (k + 1) y0 y1 y2 y3 y4 y5 y6 y7 y8))
  | 0 => ⟨fun _ _ _ _ r h => by simp [impl_CouldBe.l0] at h, fun _ _ _ _ _ _ _ _ _ r h => by simp [impl_CouldBe.l1] at h⟩
  | k + 1 => by
    obtain ⟨ih0, ih1⟩ := impl_CouldBe.mono_l k
    refine ⟨?_, ?_⟩
    · intro y0 y1 y2 y3
      unfold impl_CouldBe.l0
      repeat' first
      | (with_reducible exact ih0 _ _ _ _)
      | (with_reducible exact ih1 _ _ _ _ _ _ _ _ _)
      | (with_reducible exact impl_CapturesIn.mono _ _)
      | (with_reducible exact impl_EqualResources.mono _ _ _ _ _ _ _ _ _ _ _)
      | (with_reducible exact impl_FollowAt.mono _ _ _ _ _ _)
      | (with_reducible exact LeO.refl _)
      | (with_reducible exact LeO.none _)
      | (with_reducible refine LeO.ite ?_ ?_)
      | (with_reducible refine LeO.bind ?_ (fun _ => ?_))
      | exact ih0 _ _ _ _
      | exact ih1 _ _ _ _ _ _ _ _ _
      | exact impl_CapturesIn.mono _ _
      | exact impl_EqualResources.mono _ _ _ _ _ _ _ _ _ _ _
      | exact impl_FollowAt.mono _ _ _ _ _ _
      | exact LeO.none _
      | refine LeO.ite ?_ ?_
      | refine LeO.bind ?_ (fun _ => ?_)
    · intro y0 y1 y2 y3 y4 y5 y6 y7 y8
      unfold impl_CouldBe.l1
      repeat' first
      | (with_reducible exact ih0 _ _ _ _)
      | (with_reducible exact ih1 _ _ _ _ _ _ _ _ _)
      | (with_reducible exact impl_CapturesIn.mono _ _)
      | (with_reducible exact impl_EqualResources.mono _ _ _ _ _ _ _ _ _ _ _)
      | (with_reducible exact impl_FollowAt.mono _ _ _ _ _ _)
      | (with_reducible exact LeO.refl _)
      | (with_reducible exact LeO.none _)
      | (with_reducible refine LeO.ite ?_ ?_)
      | (with_reducible refine LeO.bind ?_ (fun _ => ?_))
      | exact ih0 _ _ _ _
      | exact ih1 _ _ _ _ _ _ _ _ _
      | exact impl_CapturesIn.mono _ _
      | exact impl_EqualResources.mono _ _ _ _ _ _ _ _ _ _ _
      | exact impl_FollowAt.mono _ _ _ _ _ _
      | exact LeO.none _
      | refine LeO.ite ?_ ?_
      | refine LeO.bind ?_ (fun _ => ?_)
theorem impl_CouldBe.mono : ∀ a0 a1 a2 k, LeO (impl_CouldBe.f k a0 a1 a2) (impl_CouldBe.f (k + 1) a0 a1 a2) := by
  intro a0 a1 a2 k
  obtain ⟨ih0, ih1⟩ := impl_CouldBe.mono_l k
  unfold impl_CouldBe.f
  repeat' first
      | (with_reducible exact ih0 _ _ _ _)
      | (with_reducible exact ih1 _ _ _ _ _ _ _ _ _)
      | (with_reducible exact impl_CapturesIn.mono _ _)
      | (with_reducible exact impl_EqualResources.mono _ _ _ _ _ _ _ _ _ _ _)
      | (with_reducible exact impl_FollowAt.mono _ _ _ _ _ _)
      | (with_reducible exact LeO.refl _)
      | (with_reducible exact LeO.none _)
      | (with_reducible refine LeO.ite ?_ ?_)
      | (with_reducible refine LeO.bind ?_ (fun _ => ?_))
      | exact ih0 _ _ _ _
      | exact ih1 _ _ _ _ _ _ _ _ _
      | exact impl_CapturesIn.mono _ _
      | exact impl_EqualResources.mono _ _ _ _ _ _ _ _ _ _ _
      | exact impl_FollowAt.mono _ _ _ _ _ _
      | exact LeO.none _
      | refine LeO.ite ?_ ?_
      | refine LeO.bind ?_ (fun _ => ?_)
def impl_CouldBe.T14 : Bool × List (List Nat × List Nat) := (true, [([], []), ([], []), ([], []), ([1, 2], [1, 2]), ([3], [3]), ([4], [4]), ([0, 5], [0, 5]), ([6], [6])])
def impl_CouldBe.B14 : List Nat := [0, 0, 0, 6, 14, 30, 63, 127]
theorem impl_CouldBe.tab14 : rtab .any (opsOf Try.f61 14) = impl_CouldBe.T14 := by kernel_rfl
theorem impl_CouldBe.bits14 : waitsOk impl_CouldBe.T14.2 impl_CouldBe.B14 = true := by kernel_rfl
set_option maxHeartbeats 8000000 in
set_option maxRecDepth 100000 in
theorem impl_CouldBe.calls (k : Nat) (A0 : Option Addr) (c0 : Nat) (l0 : List (S179)) (A1 : Option Addr) (c1 : Nat) (l1 : List (S93)) (a2 : Int) (r : Bool) (w : World) (hr0 : Kd.C k179 w A0 l0.length l0) (hc0 : l0.length ≤ c0) (hr1 : Kd.C k93 w A1 l1.length l1) (hc1 : l1.length ≤ c1) (h : impl_CouldBe.f k l0 l1 a2 = some r) :
  Calls Try.prog 61 #[.slice A0 l0.length c0, .slice A1 l1.length c1, .int .i64 a2] w fun e w' => e = .returned (.bool r) ∧ Below w.heap.size w w' := by
 have hu31 := Try.underlying31
 have hu51 := Try.underlying51
 have HR0 := Aside0.mk hr0
 have HC0 := Aside0.mk hc0
 clear hr0 hc0
 have HR1 := Aside0.mk hr1
 have HC1 := Aside0.mk hc1
 clear hr1 hc1
 have HB := Aside0.mk (Below.refl w.heap.size w)
 have H : ((impl_CapturesIn.f k a2).bind fun t396 => (if (t396.length : Int) = 0 then (some true) else (if 0 ≤ (wrap64 ((t396.length : Int) - 1)) then (if (wrap64 ((t396.length : Int) - 1)) < (t396.length : Int) then (if (rd t396 (wrap64 ((t396.length : Int) - 1))) ≥ (l1.length : Int) then (some false) else (impl_CouldBe.l0 k l0 l1 t396 0)) else (none)) else (none)))) = some r := h
 clear h
 replace H := Option.bind_eq_some_iff.mp H
 obtain ⟨t396, A40, H⟩ := H
 replace H : (if (t396.length : Int) = 0 then (some true) else (if 0 ≤ (wrap64 ((t396.length : Int) - 1)) then (if (wrap64 ((t396.length : Int) - 1)) < (t396.length : Int) then (if (rd t396 (wrap64 ((t396.length : Int) - 1))) ≥ (l1.length : Int) then (some false) else (impl_CouldBe.l0 k l0 l1 t396 0)) else (none)) else (none))) = some r := H
 have A4 := Aside0.mk A40
 clear A40
 by_cases c5 : (t396.length : Int) = 0
 ·rw [if_pos c5] at H
  have c5b0 : ((t396.length : Int) == 0) = true := beq_iff_eq.mpr c5
  have c5b1 : ((t396.length : Int) != 0) = false := bne_eq_false_iff_eq.mpr c5
  clear c5
  obtain rfl := Option.some.inj H
  go_enter Try.func61, Try.ntmps61
  go_wp2_with (first | ((with_reducible refine gate_callee (f := 143) rfl ?_); refine goesL_ (some 15) rfl rfl Try.func143 (by kernel_rfl) rfl #[.int .i64 a2] rfl (by (try simp only [List.map_toArray, List.map_cons, List.map_nil]); first | done | rfl | (simp only [List.length_drop, List.length_take]; rfl)) ?_; (with_reducible refine (impl_CapturesIn.calls k a2 t396 _ A4.out).mono ?_); rintro e w6 ⟨v397, rfl, ho0, hb⟩; refine ⟨_, rfl, ?_⟩; have n0_ := Aside0.mk (Kd.R_lower ho0 (below_size (by repeat (first | (with_reducible first | exact HB.out | apply below_alloc | apply pw_below_drewN | apply below_drew1) | exact HB.out)))); have n1_ := Aside0.mk (below_step (by repeat (first | (with_reducible first | exact HB.out | apply below_alloc | apply pw_below_drewN | apply below_drew1) | exact HB.out)) hb); clear HB; have HO398 := n0_; have HB := n1_; clear n0_ n1_; (try clear hb); (try clear hb2); (try clear hk); (try clear hi); (try clear ho0); obtain ⟨Ao7, co7, eo7⟩ := Kd.R_slice HO398.out; subst eo7))
  go_ret
  exact ⟨by first | rfl | (simp [errW_none, errW_some] <;> rfl) | (simp [*, errW_none, errW_some] <;> rfl), by repeat (first | (with_reducible first | exact HB.out | apply below_alloc | apply pw_below_drewN | apply below_drew1) | exact HB.out)⟩
 ·rw [if_neg c5] at H
  have c5b0 : ((t396.length : Int) == 0) = false := beq_eq_false_iff_ne.mpr c5
  have c5b1 : ((t396.length : Int) != 0) = true := bne_iff_ne.mpr c5
  have c5b2 : ¬ (t396 = []) := fun h_ => c5 (by rw [h_]; rfl)
  obtain ⟨ji8, hji8⟩ : ∃ j_ : Int, (wrap64 ((t396.length : Int) - 1)) = j_ := ⟨_, rfl⟩
  replace H : (if 0 ≤ (ji8) then (if (ji8) < (t396.length : Int) then (if (rd t396 (ji8)) ≥ (l1.length : Int) then (some false) else (impl_CouldBe.l0 k l0 l1 t396 0)) else (none)) else (none)) = some r := by first | (rw [hji8] at H; exact H) | (simp only [hji8] at H ⊢; exact H)
  (try rw [hji8] at A4)
  have hji8w : (IntKind.i64.wrap ((t396.length : Int) - 1)) = ji8 := (i64_w _).trans hji8
  by_cases c9 : 0 ≤ (ji8)
  ·rw [if_pos c9] at H
   have c9b0 : decide (0 ≤ (ji8)) = true := decide_eq_true c9
   clear c9
   by_cases c10 : (ji8) < (t396.length : Int)
   ·rw [if_pos c10] at H
    have c10b0 : decide ((ji8) < (t396.length : Int)) = true := decide_eq_true c10
    clear c10
    by_cases c11 : (rd t396 (ji8)) ≥ (l1.length : Int)
    ·rw [if_pos c11] at H
     have c11b0 : decide ((l1.length : Int) ≤ (rd t396 (ji8))) = true := decide_eq_true c11
     clear c11
     obtain rfl := Option.some.inj H
     go_enter Try.func61, Try.ntmps61
     go_wp2_with (first | ((with_reducible refine gate_callee (f := 143) rfl ?_); refine goesL_ (some 15) rfl rfl Try.func143 (by kernel_rfl) rfl #[.int .i64 a2] rfl (by (try simp only [List.map_toArray, List.map_cons, List.map_nil]); first | done | rfl | (simp only [List.length_drop, List.length_take]; rfl)) ?_; (with_reducible refine (impl_CapturesIn.calls k a2 t396 _ A4.out).mono ?_); rintro e w12 ⟨v397, rfl, ho0, hb⟩; refine ⟨_, rfl, ?_⟩; have n0_ := Aside0.mk (Kd.R_lower ho0 (below_size (by repeat (first | (with_reducible first | exact HB.out | apply below_alloc | apply pw_below_drewN | apply below_drew1) | exact HB.out)))); have n1_ := Aside0.mk (below_step (by repeat (first | (with_reducible first | exact HB.out | apply below_alloc | apply pw_below_drewN | apply below_drew1) | exact HB.out)) hb); clear HB; have HO398 := n0_; have HB := n1_; clear n0_ n1_; (try clear hb); (try clear hb2); (try clear hk); (try clear hi); (try clear ho0); obtain ⟨Ao13, co13, eo13⟩ := Kd.R_slice HO398.out; subst eo13; have p399 : 0 ≤ ((ji8) : Int) := of_decide_eq_true (by first | (with_reducible assumption) | assumption); have q399 : (ji8) < (t396.length : Int) := of_decide_eq_true (by first | (with_reducible assumption) | assumption); obtain ⟨ad399, e399, hx399_0⟩ := Kd.at_int (Kd.R_reads' HO398.out).2.2 (ji8) p399 q399; cases e399; replace p399 := eq_true p399; replace q399 := eq_true q399))
     go_ret
     exact ⟨by first | rfl | (simp [errW_none, errW_some] <;> rfl) | (simp only [← hji8]; first | rfl | (simp [errW_none, errW_some] <;> rfl)) | (simp [*, errW_none, errW_some] <;> rfl), by repeat (first | (with_reducible first | exact HB.out | apply below_alloc | apply pw_below_drewN | apply below_drew1) | exact HB.out)⟩
    ·rw [if_neg c11] at H
     have c11b0 : decide ((l1.length : Int) ≤ (rd t396 (ji8))) = false := decide_eq_false c11
     clear c11
     have H' := Aside0.mk H
     clear H
     go_enter Try.func61, Try.ntmps61
     go_wp2_with (first | ((with_reducible refine gate_callee (f := 143) rfl ?_); refine goesL_ (some 15) rfl rfl Try.func143 (by kernel_rfl) rfl #[.int .i64 a2] rfl (by (try simp only [List.map_toArray, List.map_cons, List.map_nil]); first | done | rfl | (simp only [List.length_drop, List.length_take]; rfl)) ?_; (with_reducible refine (impl_CapturesIn.calls k a2 t396 _ A4.out).mono ?_); rintro e w14 ⟨v397, rfl, ho0, hb⟩; refine ⟨_, rfl, ?_⟩; have n0_ := Aside0.mk (Kd.R_lower ho0 (below_size (by repeat (first | (with_reducible first | exact HB.out | apply below_alloc | apply pw_below_drewN | apply below_drew1) | exact HB.out)))); have n1_ := Aside0.mk (below_step (by repeat (first | (with_reducible first | exact HB.out | apply below_alloc | apply pw_below_drewN | apply below_drew1) | exact HB.out)) hb); clear HB; have HO398 := n0_; have HB := n1_; clear n0_ n1_; (try clear hb); (try clear hb2); (try clear hk); (try clear hi); (try clear ho0); obtain ⟨Ao15, co15, eo15⟩ := Kd.R_slice HO398.out; subst eo15; have p399 : 0 ≤ ((ji8) : Int) := of_decide_eq_true (by first | (with_reducible assumption) | assumption); have q399 : (ji8) < (t396.length : Int) := of_decide_eq_true (by first | (with_reducible assumption) | assumption); obtain ⟨ad399, e399, hx399_0⟩ := Kd.at_int (Kd.R_reads' HO398.out).2.2 (ji8) p399 q399; cases e399; replace p399 := eq_true p399; replace q399 := eq_true q399))
     go_loopg [28] k (fun kq v28 w' => ∃ (x28_1 : Int), v28 = .int .i64 x28_1 ∧ Aside0 (impl_CouldBe.l0 kq l0 l1 t396 x28_1 = some r) ∧ Aside0 (kq ≤ k) ∧ Aside0 (Kd.R (Kd.int .i64) 3 w' w.heap.size (fun _ => True) (.slice (some ad399) t396.length co15) t396) ∧ Aside0 (Below w.heap.size w w'))
     case atStart => exact ⟨(0), (by first | rfl | (simp; done) | (simp [*]; done)), H', ⟨Nat.le_refl _⟩, ⟨by (with_reducible repeat (first | apply Kd.R_alloc | apply Kd.R_drewN | apply Kd.R_drew)); exact HO398.out⟩, ⟨by repeat (first | (with_reducible first | exact HB.out | apply below_alloc | apply pw_below_drewN | apply below_drew1) | exact HB.out)⟩⟩
     case round =>
      clear H'
      try clear c1
      try clear p2
      try clear p3
      try clear q3
      try clear hx3
      try clear c5
      try clear c5b0
      try clear c5b1
      try clear c5b2
      try clear c6
      try clear p6
      try clear c9
      try clear c9b0
      try clear c10
      try clear c10b0
      try clear c11
      try clear c11b0
      try clear c14
      try clear hx399_0
      try clear p399
      try clear q399
      obtain ⟨x28_1, rfl, HA, HK1, HO_7, HB⟩ := hrel
      cases gk with
      | zero => exact absurd HA.out (by simp [impl_CouldBe.l0])
      | succ k1 =>
       have H := HA.out
       clear HA
       simp only [impl_CouldBe.l0] at H
       by_cases c16 : x28_1 < 1001
       ·rw [if_pos c16] at H
        have c16b0 : decide (x28_1 < 1001) = true := decide_eq_true c16
        clear c16
        have H' := Aside0.mk H
        clear H
        go_wp2
        go_loopg [9, 33] k1 (fun kq v9 v33 w' => ∃ (x9_2 : Bool) (x33_2 : Int), v9 = .bool x9_2 ∧ v33 = .int .i64 x33_2 ∧ Aside0 (impl_CouldBe.l1 kq l0 l1 t396 x28_1 x9_2 x28_1 t396 (t396.length : Int) x33_2 = some r) ∧ Aside0 (kq ≤ k1) ∧ Aside0 (Kd.R (Kd.int .i64) 3 w' w.heap.size (fun _ => True) (.slice (some ad399) t396.length co15) t396) ∧ Aside0 (Kd.R (Kd.int .i64) 3 w' w.heap.size (fun _ => True) (.slice (some ad399) t396.length co15) t396) ∧ Aside0 (Below w.heap.size w w'))
        case atStart => exact ⟨(true), (0), (by first | rfl | (simp; done) | (simp [*]; done)), (by first | rfl | (simp; done) | (simp [*]; done)), H', ⟨Nat.le_refl _⟩, ⟨by (with_reducible repeat (first | apply Kd.R_alloc | apply Kd.R_drewN | apply Kd.R_drew)); exact HO_7.out⟩, ⟨by (with_reducible repeat (first | apply Kd.R_alloc | apply Kd.R_drewN | apply Kd.R_drew)); exact HO_7.out⟩, ⟨by repeat (first | (with_reducible first | exact HB.out | apply below_alloc | apply pw_below_drewN | apply below_drew1) | exact HB.out)⟩⟩
        case round =>
         clear H'
         try clear c1
         try clear p2
         try clear p3
         try clear q3
         try clear hx3
         try clear c5
         try clear c5b0
         try clear c5b1
         try clear c5b2
         try clear c6
         try clear p6
         try clear c9
         try clear c9b0
         try clear c10
         try clear c10b0
         try clear c11
         try clear c11b0
         try clear c14
         try clear c16
         try clear c16b0
         try clear hx399_0
         try clear p2
         try clear p3
         try clear p399
         try clear p6
         try clear q3
         try clear q399
         obtain ⟨x9_2, x33_2, rfl, rfl, HA, HK2, HO_7, HO_31, HB⟩ := hrel
         cases gk with
         | zero => exact absurd HA.out (by simp [impl_CouldBe.l1])
         | succ k2 =>
          have H := HA.out
          clear HA
          simp only [impl_CouldBe.l1] at H
          by_cases c17 : x33_2 < (t396.length : Int)
          ·rw [if_pos c17] at H
           have c17b0 : decide (x33_2 < (t396.length : Int)) = true := decide_eq_true c17
           clear c17
           by_cases c18 : 0 ≤ x33_2
           ·rw [if_pos c18] at H
            have c18b0 : decide (0 ≤ x33_2) = true := decide_eq_true c18
            clear c18
            by_cases c19 : x33_2 < (t396.length : Int)
            ·rw [if_pos c19] at H
             have c19b0 : decide (x33_2 < (t396.length : Int)) = true := decide_eq_true c19
             clear c19
             by_cases c20 : 0 ≤ (rd t396 x33_2)
             ·rw [if_pos c20] at H
              have c20b0 : decide (0 ≤ (rd t396 x33_2)) = true := decide_eq_true c20
              clear c20
              by_cases c21 : (rd t396 x33_2) < (l1.length : Int)
              ·rw [if_pos c21] at H
               have c21b0 : decide ((rd t396 x33_2) < (l1.length : Int)) = true := decide_eq_true c21
               clear c21
               replace H := Option.bind_eq_some_iff.mp H
               obtain ⟨⟨t402, t403, t406, t407, t408, t409⟩, A220, H⟩ := H
               replace H : ((impl_EqualResources.f k2 t402 t403 t406 t407 t408 ((rd_T93 l1 (rd t396 x33_2)).f2.f0) ((rd_T93 l1 (rd t396 x33_2)).f2.f1) ((rd_T93 l1 (rd t396 x33_2)).f2.f2.f0) ((rd_T93 l1 (rd t396 x33_2)).f2.f2.f1) ((rd_T93 l1 (rd t396 x33_2)).f2.f2.f2)).bind fun t414 => (if t414 = true then (impl_CouldBe.l1 k2 l0 l1 t396 x28_1 x9_2 x28_1 t396 (t396.length : Int) (wrap64 (x33_2 + 1))) else (impl_CouldBe.l0 k2 l0 l1 t396 (wrap64 (x28_1 + 1))))) = some r := H
               have A22 := Aside0.mk A220
               clear A220
               replace H := Option.bind_eq_some_iff.mp H
               obtain ⟨t414, A230, H⟩ := H
               replace H : (if t414 = true then (impl_CouldBe.l1 k2 l0 l1 t396 x28_1 x9_2 x28_1 t396 (t396.length : Int) (wrap64 (x33_2 + 1))) else (impl_CouldBe.l0 k2 l0 l1 t396 (wrap64 (x28_1 + 1)))) = some r := H
               have A23 := Aside0.mk A230
               clear A230
               by_cases c24 : t414 = true
               ·subst c24
                have H1 : (impl_CouldBe.l1 k2 l0 l1 t396 x28_1 x9_2 x28_1 t396 (t396.length : Int) (wrap64 (x33_2 + 1))) = some r := by rw [if_pos rfl] at H; exact H
                clear H
                have H := H1
                clear H1
                have H' := Aside0.mk H
                clear H
                have p400 : 0 ≤ (x33_2 : Int) := of_decide_eq_true (by first | (with_reducible assumption) | assumption)
                have q400 : x33_2 < (t396.length : Int) := of_decide_eq_true (by first | (with_reducible assumption) | assumption)
                obtain ⟨ad400, e400, hx400_0⟩ := Kd.at_int (Kd.R_reads' HO_31.out).2.2 x33_2 p400 q400
                obtain rfl : ad399 = ad400 := (by injection e400)
                replace p400 := eq_true p400
                replace q400 := eq_true q400
                have p401 : 0 ≤ ((rd t396 x33_2) : Int) := of_decide_eq_true (by first | (with_reducible assumption) | assumption)
                have q401 : (rd t396 x33_2) < (l1.length : Int) := of_decide_eq_true (by first | (with_reducible assumption) | assumption)
                obtain ⟨ad401, A401_5, c401_5, e401, hx401_0, hx401_1, hx401_2, hx401_3, hx401_4, hx401_5, hx401_6, hx401_7, hx401_8, hl401_5, hi401_5⟩ := at_T93 HR1.out (rd t396 x33_2) p401 q401
                cases e401
                replace hx401_0 := (HB.out.cell (World.block_lt_of_cell? w _ hx401_0)).trans hx401_0
                replace hx401_1 := (HB.out.cell (World.block_lt_of_cell? w _ hx401_1)).trans hx401_1
                replace hx401_2 := (HB.out.cell (World.block_lt_of_cell? w _ hx401_2)).trans hx401_2
                replace hx401_3 := (HB.out.cell (World.block_lt_of_cell? w _ hx401_3)).trans hx401_3
                replace hx401_4 := (HB.out.cell (World.block_lt_of_cell? w _ hx401_4)).trans hx401_4
                replace hx401_5 := (HB.out.cell (World.block_lt_of_cell? w _ hx401_5)).trans hx401_5
                replace hx401_6 := (HB.out.cell (World.block_lt_of_cell? w _ hx401_6)).trans hx401_6
                replace hx401_7 := (HB.out.cell (World.block_lt_of_cell? w _ hx401_7)).trans hx401_7
                replace hx401_8 := (HB.out.cell (World.block_lt_of_cell? w _ hx401_8)).trans hx401_8
                have HR401_5 := Aside0.mk hi401_5
                have HC401_5 := Aside0.mk hl401_5
                clear hi401_5 hl401_5
                replace p401 := eq_true p401
                replace q401 := eq_true q401
                try go_wp2_with (first | ((with_reducible refine gate_callee (f := 94) rfl ?_); refine goesL_ (some 45) rfl rfl Try.func94 (by kernel_rfl) rfl #[.slice A0 l0.length c0, .agg #[.int .i64 ((rd_T93 l1 (rd t396 x33_2)).f0.f0), .int .i64 ((rd_T93 l1 (rd t396 x33_2)).f0.f1), .int .i64 ((rd_T93 l1 (rd t396 x33_2)).f0.f2)], .int .i64 x28_1] rfl (by (try simp only [List.map_toArray, List.map_cons, List.map_nil]); first | done | rfl | (simp only [List.length_drop, List.length_take]; rfl)) ?_; (with_reducible refine (impl_FollowAt.calls k2 _ _ l0 ((rd_T93 l1 (rd t396 x33_2)).f0.f0) ((rd_T93 l1 (rd t396 x33_2)).f0.f1) ((rd_T93 l1 (rd t396 x33_2)).f0.f2) x28_1 t402 t403 t406 t407 t408 t409 _ ?side1 ?side2 A22.out).mono ?_); (case side1 => repeat (first | exact (Kd.C_below HR0.out HB.out) | (with_reducible refine Kd.C_alloc ?_ _) | (with_reducible refine Kd.C_drewN ?_ _) | (with_reducible refine Kd.C_drew ?_))); (case side2 => exact HC0.out); rintro e w25 ⟨v404, v410, rfl, ho0, ho1, hb⟩; refine ⟨_, rfl, ?_⟩; have n0_ := Aside0.mk (Kd.R_elder' (by (with_reducible repeat (first | apply Kd.R_alloc | apply Kd.R_drewN | apply Kd.R_drew)); exact HO_7.out) (Kd.R_base ho0) hb); have n1_ := Aside0.mk (Kd.R_elder' (by (with_reducible repeat (first | apply Kd.R_alloc | apply Kd.R_drewN | apply Kd.R_drew)); exact HO_31.out) (Kd.R_base ho0) hb); have n2_ := Aside0.mk (Kd.R_lower (Kd.R_new' (Kd.R_new' ho0 (Kd.R_lt (by (with_reducible repeat (first | apply Kd.R_alloc | apply Kd.R_drewN | apply Kd.R_drew)); exact HO_7.out))) (Kd.R_lt (by (with_reducible repeat (first | apply Kd.R_alloc | apply Kd.R_drewN | apply Kd.R_drew)); exact HO_31.out))) (below_size (by repeat (first | (with_reducible first | exact HB.out | apply below_alloc | apply pw_below_drewN | apply below_drew1) | exact HB.out)))); have n3_ := Aside0.mk (Kd.R_lower ho1 (below_size (by repeat (first | (with_reducible first | exact HB.out | apply below_alloc | apply pw_below_drewN | apply below_drew1) | exact HB.out)))); have n4_ := Aside0.mk (below_step (by repeat (first | (with_reducible first | exact HB.out | apply below_alloc | apply pw_below_drewN | apply below_drew1) | exact HB.out)) hb); clear HO_7; clear HO_31; clear HB; have HO_7 := n0_; have HO_31 := n1_; have HO405 := n2_; have HO411 := n3_; have HB := n4_; clear n0_ n1_ n2_ n3_ n4_; (try clear hb); (try clear hb2); (try clear hk); (try clear hi); (try clear ho0); (try clear ho1)) | ((with_reducible refine gate_dst (N := 12) rfl ?_); refine box_event ?hg (N := 12) ?hd (cs := #[.int .i64 0, .slice none 0 0, .int .i64 0, .int .i64 0, .int .i64 0]) (t := 51) ?hr ?_; (case hd => rfl); (case hg => rfl); (case hr => first | (go_simp; done) | (go_simp; rfl)); intro gb412 hg w26 hbox hb; have n0_ := Aside0.mk (Kd.R_below (by (with_reducible repeat (first | apply Kd.R_alloc | apply Kd.R_drewN | apply Kd.R_drew)); exact HO_7.out) hb); have n1_ := Aside0.mk (Kd.R_below (by (with_reducible repeat (first | apply Kd.R_alloc | apply Kd.R_drewN | apply Kd.R_drew)); exact HO_31.out) hb); have n2_ := Aside0.mk (Kd.R_below (by (with_reducible repeat (first | apply Kd.R_alloc | apply Kd.R_drewN | apply Kd.R_drew)); exact HO405.out) hb); have n3_ := Aside0.mk (Kd.R_below (by (with_reducible repeat (first | apply Kd.R_alloc | apply Kd.R_drewN | apply Kd.R_drew)); exact HO411.out) hb); have n4_ := Aside0.mk (below_step (by repeat (first | (with_reducible first | exact HB.out | apply below_alloc | apply pw_below_drewN | apply below_drew1) | exact HB.out)) hb); have n5_ := Aside0.mk (hbox); have n6_ := Aside0.mk ((by rw [hg]; exact (below_size (by repeat (first | (with_reducible first | exact HB.out | apply below_alloc | apply pw_below_drewN | apply below_drew1) | exact HB.out))) : w.heap.size ≤ gb412)); have n7_ := Aside0.mk ((by rw [hg]; exact (below_size (by repeat (first | (with_reducible first | exact HB.out | apply below_alloc | apply pw_below_drewN | apply below_drew1) | exact HB.out))) : w.heap.size ≤ gb412)); clear HO_7; clear HO_31; clear HO405; clear HO411; clear HB; have HO_7 := n0_; have HO_31 := n1_; have HO405 := n2_; have HO411 := n3_; have HB := n4_; have BK412 := n5_; have GW412 := n6_; have GE412 := n7_; clear n0_ n1_ n2_ n3_ n4_ n5_ n6_ n7_; clear hb hbox hg; have hcz27_0 : w26.cell? ⟨gb412, 0, none⟩ = some (.int .i64 0) := (blk_cell BK412.out 0).trans rfl; have hcz27_1 : w26.cell? ⟨gb412, 1, none⟩ = some (.slice none 0 0) := (blk_cell BK412.out 1).trans rfl; have hcz27_2 : w26.cell? ⟨gb412, 2, none⟩ = some (.int .i64 0) := (blk_cell BK412.out 2).trans rfl; have hcz27_3 : w26.cell? ⟨gb412, 3, none⟩ = some (.int .i64 0) := (blk_cell BK412.out 3).trans rfl; have hcz27_4 : w26.cell? ⟨gb412, 4, none⟩ = some (.int .i64 0) := (blk_cell BK412.out 4).trans rfl; have hfz27_0 := blk_frozen BK412.out 0; have hfz27_1 := blk_frozen BK412.out 1; have hfz27_2 := blk_frozen BK412.out 2; have hfz27_3 := blk_frozen BK412.out 3; have hfz27_4 := blk_frozen BK412.out 4; obtain ⟨Ao28, co28, eo28⟩ := Kd.R_slice HO405.out; subst eo28))
                have n0_ : Aside0 (Kd.R (Kd.int .i64) 3 (((((w26.setCell ⟨gb412, 0, none⟩ (.int .i64 t402)).setCell ⟨gb412, 1, none⟩ (.slice Ao28 t403.length co28)).setCell ⟨gb412, 2, none⟩ (.int .i64 t406)).setCell ⟨gb412, 3, none⟩ (.int .i64 t407)).setCell ⟨gb412, 4, none⟩ (.int .i64 t408)) w.heap.size (fun k_ => some k_ ≠ (.slice Ao28 t403.length co28 : Value).ownBlock) (.slice (some ad399) t396.length co15) t396) := ⟨by (with_reducible repeat (first | apply Kd.R_alloc | apply Kd.R_drewN | apply Kd.R_drew)); exact Kd.R_mono (Kd.R_far (p := ⟨gb412, 4, none⟩) (Kd.R_far (p := ⟨gb412, 3, none⟩) (Kd.R_far (p := ⟨gb412, 2, none⟩) (Kd.R_far (p := ⟨gb412, 1, none⟩) (Kd.R_far (p := ⟨gb412, 0, none⟩) (Kd.R_types HO_7.out BK412.out (by decide)) (fun _ hk => by first | exact hk.2 | simp_all) (.int .i64 t402)) (fun _ hk => by first | exact hk.2 | simp_all) (.slice Ao28 t403.length co28)) (fun _ hk => by first | exact hk.2 | simp_all) (.int .i64 t406)) (fun _ hk => by first | exact hk.2 | simp_all) (.int .i64 t407)) (fun _ hk => by first | exact hk.2 | simp_all) (.int .i64 t408)) (fun _ hk => by first | exact hk.1.2 | simp_all)⟩
                have n1_ : Aside0 (Kd.R (Kd.int .i64) 3 (((((w26.setCell ⟨gb412, 0, none⟩ (.int .i64 t402)).setCell ⟨gb412, 1, none⟩ (.slice Ao28 t403.length co28)).setCell ⟨gb412, 2, none⟩ (.int .i64 t406)).setCell ⟨gb412, 3, none⟩ (.int .i64 t407)).setCell ⟨gb412, 4, none⟩ (.int .i64 t408)) w.heap.size (fun k_ => some k_ ≠ (.slice Ao28 t403.length co28 : Value).ownBlock) (.slice (some ad399) t396.length co15) t396) := ⟨by (with_reducible repeat (first | apply Kd.R_alloc | apply Kd.R_drewN | apply Kd.R_drew)); exact Kd.R_mono (Kd.R_far (p := ⟨gb412, 4, none⟩) (Kd.R_far (p := ⟨gb412, 3, none⟩) (Kd.R_far (p := ⟨gb412, 2, none⟩) (Kd.R_far (p := ⟨gb412, 1, none⟩) (Kd.R_far (p := ⟨gb412, 0, none⟩) (Kd.R_types HO_31.out BK412.out (by decide)) (fun _ hk => by first | exact hk.2 | simp_all) (.int .i64 t402)) (fun _ hk => by first | exact hk.2 | simp_all) (.slice Ao28 t403.length co28)) (fun _ hk => by first | exact hk.2 | simp_all) (.int .i64 t406)) (fun _ hk => by first | exact hk.2 | simp_all) (.int .i64 t407)) (fun _ hk => by first | exact hk.2 | simp_all) (.int .i64 t408)) (fun _ hk => by first | exact hk.1.2 | simp_all)⟩
                have n2_ : Aside0 (Kd.R (Kd.int .i64) 3 (((((w26.setCell ⟨gb412, 0, none⟩ (.int .i64 t402)).setCell ⟨gb412, 1, none⟩ (.slice Ao28 t403.length co28)).setCell ⟨gb412, 2, none⟩ (.int .i64 t406)).setCell ⟨gb412, 3, none⟩ (.int .i64 t407)).setCell ⟨gb412, 4, none⟩ (.int .i64 t408)) w.heap.size (fun k_ => some k_ ≠ (.slice (some ad399) t396.length co15 : Value).ownBlock ∧ some k_ ≠ (.slice (some ad399) t396.length co15 : Value).ownBlock) (.slice Ao28 t403.length co28) t403) := ⟨by (with_reducible repeat (first | apply Kd.R_alloc | apply Kd.R_drewN | apply Kd.R_drew)); exact Kd.R_mono (Kd.R_far (p := ⟨gb412, 4, none⟩) (Kd.R_far (p := ⟨gb412, 3, none⟩) (Kd.R_far (p := ⟨gb412, 2, none⟩) (Kd.R_far (p := ⟨gb412, 1, none⟩) (Kd.R_far (p := ⟨gb412, 0, none⟩) (Kd.R_types HO405.out BK412.out (by decide)) (fun _ hk => by first | exact hk.2 | simp_all) (.int .i64 t402)) (fun _ hk => by first | exact hk.2 | simp_all) (.slice Ao28 t403.length co28)) (fun _ hk => by first | exact hk.2 | simp_all) (.int .i64 t406)) (fun _ hk => by first | exact hk.2 | simp_all) (.int .i64 t407)) (fun _ hk => by first | exact hk.2 | simp_all) (.int .i64 t408)) (fun _ hk => by first | exact ⟨hk.1.1.2, hk.1.2⟩ | simp_all)⟩
                have n3_ : Aside0 (Kd.R k31 31 (((((w26.setCell ⟨gb412, 0, none⟩ (.int .i64 t402)).setCell ⟨gb412, 1, none⟩ (.slice Ao28 t403.length co28)).setCell ⟨gb412, 2, none⟩ (.int .i64 t406)).setCell ⟨gb412, 3, none⟩ (.int .i64 t407)).setCell ⟨gb412, 4, none⟩ (.int .i64 t408)) w.heap.size (fun _ => True) v410 t409) := ⟨by (with_reducible repeat (first | apply Kd.R_alloc | apply Kd.R_drewN | apply Kd.R_drew)); exact Kd.R_mono (Kd.R_far (p := ⟨gb412, 4, none⟩) (Kd.R_far (p := ⟨gb412, 3, none⟩) (Kd.R_far (p := ⟨gb412, 2, none⟩) (Kd.R_far (p := ⟨gb412, 1, none⟩) (Kd.R_far (p := ⟨gb412, 0, none⟩) (Kd.R_types HO411.out BK412.out (by decide)) (fun _ hk => by first | exact hk.2 | simp_all) (.int .i64 t402)) (fun _ hk => by first | exact hk.2 | simp_all) (.slice Ao28 t403.length co28)) (fun _ hk => by first | exact hk.2 | simp_all) (.int .i64 t406)) (fun _ hk => by first | exact hk.2 | simp_all) (.int .i64 t407)) (fun _ hk => by first | exact hk.2 | simp_all) (.int .i64 t408)) (fun _ hk => trivial)⟩
                have n4_ : Aside0 ((((((w26.setCell ⟨gb412, 0, none⟩ (.int .i64 t402)).setCell ⟨gb412, 1, none⟩ (.slice Ao28 t403.length co28)).setCell ⟨gb412, 2, none⟩ (.int .i64 t406)).setCell ⟨gb412, 3, none⟩ (.int .i64 t407)).setCell ⟨gb412, 4, none⟩ (.int .i64 t408)).heap[gb412]? = some (.cells #[.int .i64 t402, .slice Ao28 t403.length co28, .int .i64 t406, .int .i64 t407, .int .i64 t408] 51 (0, 0))) := ⟨by (with_reducible repeat (first | refine blk_drewN ?_ _ | refine blk_drew ?_ | refine blk_alloc ?_ _)); refine blk_put (cs := #[.int .i64 t402, .slice Ao28 t403.length co28, .int .i64 t406, .int .i64 t407, .int .i64 0]) ?_ 4 _ rfl; (with_reducible repeat (first | refine blk_drewN ?_ _ | refine blk_drew ?_ | refine blk_alloc ?_ _)); refine blk_put (cs := #[.int .i64 t402, .slice Ao28 t403.length co28, .int .i64 t406, .int .i64 0, .int .i64 0]) ?_ 3 _ rfl; (with_reducible repeat (first | refine blk_drewN ?_ _ | refine blk_drew ?_ | refine blk_alloc ?_ _)); refine blk_put (cs := #[.int .i64 t402, .slice Ao28 t403.length co28, .int .i64 0, .int .i64 0, .int .i64 0]) ?_ 2 _ rfl; (with_reducible repeat (first | refine blk_drewN ?_ _ | refine blk_drew ?_ | refine blk_alloc ?_ _)); refine blk_put (cs := #[.int .i64 t402, .slice none 0 0, .int .i64 0, .int .i64 0, .int .i64 0]) ?_ 1 _ rfl; (with_reducible repeat (first | refine blk_drewN ?_ _ | refine blk_drew ?_ | refine blk_alloc ?_ _)); refine blk_put (cs := #[.int .i64 0, .slice none 0 0, .int .i64 0, .int .i64 0, .int .i64 0]) ?_ 0 _ rfl; (with_reducible repeat (first | refine blk_drewN ?_ _ | refine blk_drew ?_ | refine blk_alloc ?_ _)); exact BK412.out⟩
                have n5_ : Aside0 (Below w.heap.size w (((((w26.setCell ⟨gb412, 0, none⟩ (.int .i64 t402)).setCell ⟨gb412, 1, none⟩ (.slice Ao28 t403.length co28)).setCell ⟨gb412, 2, none⟩ (.int .i64 t406)).setCell ⟨gb412, 3, none⟩ (.int .i64 t407)).setCell ⟨gb412, 4, none⟩ (.int .i64 t408))) := ⟨by repeat (first | (with_reducible first | exact HB.out | apply below_alloc | apply pw_below_drewN | apply below_drew1 | refine below_set ?_ GE412.out) | exact HB.out)⟩
                (try clear HO_7)
                (try clear HO_31)
                (try clear HO405)
                (try clear HO411)
                (try clear BK412)
                (try clear HB)
                generalize (((((w26.setCell ⟨gb412, 0, none⟩ (.int .i64 t402)).setCell ⟨gb412, 1, none⟩ (.slice Ao28 t403.length co28)).setCell ⟨gb412, 2, none⟩ (.int .i64 t406)).setCell ⟨gb412, 3, none⟩ (.int .i64 t407)).setCell ⟨gb412, 4, none⟩ (.int .i64 t408)) = w29 at n0_ n1_ n2_ n3_ n4_ n5_ ⊢
                have HO_7 := n0_
                have HO_31 := n1_
                have HO405 := n2_
                have HO411 := n3_
                have BK412 := n4_
                have HB := n5_
                clear n0_ n1_ n2_ n3_ n4_ n5_
                have n0_ := Aside0.mk (Kd.R_drew HO_7.out)
                have n1_ := Aside0.mk (Kd.R_drew HO_31.out)
                have n2_ := Aside0.mk (Kd.R_drew HO405.out)
                have n3_ := Aside0.mk (Kd.R_drew HO411.out)
                have n4_ := Aside0.mk (blk_drew BK412.out)
                have n5_ := Aside0.mk (below_drew1 HB.out)
                clear HO_7
                clear HO_31
                clear HO405
                clear HO411
                clear BK412
                clear HB
                have HO_7 := n0_
                have HO_31 := n1_
                have HO405 := n2_
                have HO411 := n3_
                have BK412 := n4_
                have HB := n5_
                clear n0_ n1_ n2_ n3_ n4_ n5_
                have p413 : 0 ≤ ((rd t396 x33_2) : Int) := of_decide_eq_true (by first | (with_reducible assumption) | assumption)
                have q413 : (rd t396 x33_2) < (l1.length : Int) := of_decide_eq_true (by first | (with_reducible assumption) | assumption)
                obtain ⟨ad413, A413_5, c413_5, e413, hx413_0, hx413_1, hx413_2, hx413_3, hx413_4, hx413_5, hx413_6, hx413_7, hx413_8, hl413_5, hi413_5⟩ := at_T93 HR1.out (rd t396 x33_2) p413 q413
                have hw413_8 := hx413_8
                have hw413_7 := hx413_7
                have hw413_6 := hx413_6
                have hw413_5 := hx413_5
                have hw413_4 := hx413_4
                have hw413_3 := hx413_3
                have hw413_2 := hx413_2
                have hw413_1 := hx413_1
                have hw413_0 := hx413_0
                obtain rfl : ad401 = ad413 := (by injection e413)
                replace hx413_0 := (HB.out.cell (World.block_lt_of_cell? w _ hx413_0)).trans hx413_0
                replace hx413_1 := (HB.out.cell (World.block_lt_of_cell? w _ hx413_1)).trans hx413_1
                replace hx413_2 := (HB.out.cell (World.block_lt_of_cell? w _ hx413_2)).trans hx413_2
                replace hx413_3 := (HB.out.cell (World.block_lt_of_cell? w _ hx413_3)).trans hx413_3
                replace hx413_4 := (HB.out.cell (World.block_lt_of_cell? w _ hx413_4)).trans hx413_4
                replace hx413_5 := (HB.out.cell (World.block_lt_of_cell? w _ hx413_5)).trans hx413_5
                replace hx413_6 := (HB.out.cell (World.block_lt_of_cell? w _ hx413_6)).trans hx413_6
                replace hx413_7 := (HB.out.cell (World.block_lt_of_cell? w _ hx413_7)).trans hx413_7
                replace hx413_8 := (HB.out.cell (World.block_lt_of_cell? w _ hx413_8)).trans hx413_8
                have HR413_5 := Aside0.mk hi413_5
                have HC413_5 := Aside0.mk hl413_5
                clear hi413_5 hl413_5
                replace p413 := eq_true p413
                replace q413 := eq_true q413
                refine start_ (n := 8) (S := fun w' => w'.cell? ⟨gb412, 0, none⟩ = some (.int .i64 t402) ∧ w'.cell? ⟨gb412, 1, none⟩ = some (.slice Ao28 t403.length co28) ∧ w'.cell? ⟨gb412, 2, none⟩ = some (.int .i64 t406) ∧ w'.cell? ⟨gb412, 3, none⟩ = some (.int .i64 t407) ∧ w'.cell? ⟨gb412, 4, none⟩ = some (.int .i64 t408) ∧ w'.cell? (ad401.add (((rd t396 x33_2)).toNat * 9)) = some (.int .i64 ((rd_T93 l1 (rd t396 x33_2)).f0.f0)) ∧ w'.cell? ⟨(ad401.add (((rd t396 x33_2)).toNat * 9)).block, (ad401.add (((rd t396 x33_2)).toNat * 9)).off + 1, none⟩ = some (.int .i64 ((rd_T93 l1 (rd t396 x33_2)).f0.f1)) ∧ w'.cell? ⟨(ad401.add (((rd t396 x33_2)).toNat * 9)).block, (ad401.add (((rd t396 x33_2)).toNat * 9)).off + 2, none⟩ = some (.int .i64 ((rd_T93 l1 (rd t396 x33_2)).f0.f2)) ∧ w'.cell? ⟨(ad401.add (((rd t396 x33_2)).toNat * 9)).block, (ad401.add (((rd t396 x33_2)).toNat * 9)).off + 3, none⟩ = some (.int .i64 ((rd_T93 l1 (rd t396 x33_2)).f1)) ∧ w'.cell? ⟨(ad401.add (((rd t396 x33_2)).toNat * 9)).block, (ad401.add (((rd t396 x33_2)).toNat * 9)).off + 4, none⟩ = some (.int .i64 ((rd_T93 l1 (rd t396 x33_2)).f2.f0)) ∧ w'.cell? ⟨(ad401.add (((rd t396 x33_2)).toNat * 9)).block, (ad401.add (((rd t396 x33_2)).toNat * 9)).off + 5, none⟩ = some (.slice A413_5 ((rd_T93 l1 (rd t396 x33_2)).f2.f1).length c413_5) ∧ w'.cell? ⟨(ad401.add (((rd t396 x33_2)).toNat * 9)).block, (ad401.add (((rd t396 x33_2)).toNat * 9)).off + 6, none⟩ = some (.int .i64 ((rd_T93 l1 (rd t396 x33_2)).f2.f2.f0)) ∧ w'.cell? ⟨(ad401.add (((rd t396 x33_2)).toNat * 9)).block, (ad401.add (((rd t396 x33_2)).toNat * 9)).off + 7, none⟩ = some (.int .i64 ((rd_T93 l1 (rd t396 x33_2)).f2.f2.f1)) ∧ w'.cell? ⟨(ad401.add (((rd t396 x33_2)).toNat * 9)).block, (ad401.add (((rd t396 x33_2)).toNat * 9)).off + 8, none⟩ = some (.int .i64 ((rd_T93 l1 (rd t396 x33_2)).f2.f2.f2))) (ds := []) #[false, false, false, false, false, false, false, false] (by kernel_rfl) rfl rfl ⟨(blk_cell BK412.out 0).trans rfl, (blk_cell BK412.out 1).trans rfl, (blk_cell BK412.out 2).trans rfl, (blk_cell BK412.out 3).trans rfl, (blk_cell BK412.out 4).trans rfl, ((HB.out.cell (World.block_lt_of_cell? w _ hw413_0)).trans hw413_0), ((HB.out.cell (World.block_lt_of_cell? w _ hw413_1)).trans hw413_1), ((HB.out.cell (World.block_lt_of_cell? w _ hw413_2)).trans hw413_2), ((HB.out.cell (World.block_lt_of_cell? w _ hw413_3)).trans hw413_3), ((HB.out.cell (World.block_lt_of_cell? w _ hw413_4)).trans hw413_4), ((HB.out.cell (World.block_lt_of_cell? w _ hw413_5)).trans hw413_5), ((HB.out.cell (World.block_lt_of_cell? w _ hw413_6)).trans hw413_6), ((HB.out.cell (World.block_lt_of_cell? w _ hw413_7)).trans hw413_7), ((HB.out.cell (World.block_lt_of_cell? w _ hw413_8)).trans hw413_8)⟩ (fun hHeld => ?_); refine with_tabW impl_CouldBe.tab14 impl_CouldBe.bits14 (fun HT_ HW_ => ?_)
                generalize w29.drew = w30 at HO_7 HO_31 HO405 HO411 BK412 HB HR413_5 hx413_0 hx413_1 hx413_2 hx413_3 hx413_4 hx413_5 hx413_6 hx413_7 hx413_8 hHeld ⊢
                refine pure_ (i := 1) (N := some 49) (v := ?_) (a' := ?_) #[false, true, false, false, false, false, false, false] rfl rfl (any_of HT_.out (by kernel_rfl)) (fun _ _ _ h => h) (Or.inl ⟨by rfl, ?_⟩) ?_ ?_
                rotate_left
                ·intro w'
                 go_simp
                 with_reducible rfl
                rotate_left
                ·simp only [Act.put, List.setIfInBounds_toArray, List.set_cons_zero, List.set_cons_succ, i64_w, i32_w]
                 rfl
                refine pure_ (i := 2) (N := some 50) (v := ?_) (a' := ?_) #[false, true, true, false, false, false, false, false] rfl rfl (any_of HT_.out (by kernel_rfl)) (fun _ _ _ h => h) (Or.inl ⟨by rfl, ?_⟩) ?_ ?_
                rotate_left
                ·intro w'
                 go_simp
                 with_reducible rfl
                rotate_left
                ·simp only [Act.put, List.setIfInBounds_toArray, List.set_cons_zero, List.set_cons_succ, i64_w, i32_w]
                 rfl
                refine pure_ (i := 3) (N := some 51) (v := ?_) (a' := ?_) #[false, true, true, true, false, false, false, false] rfl rfl (any_of HT_.out (by kernel_rfl)) (fun _ _ _ h => h) (Or.inl ⟨by rfl, ?_⟩) ?_ ?_
                rotate_left
                ·intro w'
                 go_simp
                 with_reducible rfl
                rotate_left
                ·simp only [Act.put, List.setIfInBounds_toArray, List.set_cons_zero, List.set_cons_succ, i64_w, i32_w]
                 rfl
                refine pure_ (i := 4) (N := some 52) (v := ?_) (a' := ?_) #[false, true, true, true, true, false, false, false] rfl rfl (any_of HT_.out (by kernel_rfl)) (fun _ _ _ h => h) (Or.inl ⟨by rfl, ?_⟩) ?_ ?_
                rotate_left
                ·intro w'
                 go_simp
                 with_reducible rfl
                rotate_left
                ·simp only [Act.put, List.setIfInBounds_toArray, List.set_cons_zero, List.set_cons_succ, i64_w, i32_w]
                 rfl
                refine take_ (i := 0) (N := some 48) (v := ?_) (a' := ?_) #[true, true, true, true, true, false, false, false] rfl rfl (take_ofW HT_.out HW_.out (by kernel_rfl)) (fun _ _ _ h => h) (Or.inl ⟨by rfl, ?_⟩) hHeld ?_ ?_
                rotate_left
                ·rintro w' ⟨s0, s1, s2, s3, s4, s5, s6, s7, s8, s9, s10, s11, s12, s13⟩
                 go_simp
                 with_reducible rfl
                rotate_left
                ·simp only [Act.put, List.setIfInBounds_toArray, List.set_cons_zero, List.set_cons_succ, i64_w, i32_w]
                 rfl
                refine take_ (i := 5) (N := some 53) (v := ?_) (a' := ?_) #[true, true, true, true, true, true, false, false] rfl rfl (take_ofW HT_.out HW_.out (by kernel_rfl)) (fun _ _ _ h => h) (Or.inl ⟨by rfl, ?_⟩) hHeld ?_ ?_
                rotate_left
                ·rintro w' ⟨s0, s1, s2, s3, s4, s5, s6, s7, s8, s9, s10, s11, s12, s13⟩
                 go_simp
                 with_reducible rfl
                rotate_left
                ·simp only [Act.put, List.setIfInBounds_toArray, List.set_cons_zero, List.set_cons_succ, i64_w, i32_w]
                 rfl
                refine one_ (i := 6) (N := some 54) #[true, true, true, true, true, true, true, false] rfl rfl (one_of HT_.out (by kernel_rfl)) (by decide) (fun K hK => ?_)
                refine goes_ Try.func144 (by kernel_rfl) rfl #[.agg #[.int .i64 t402, .slice Ao28 t403.length co28, .int .i64 t406, .int .i64 t407, .int .i64 t408], .agg #[.int .i64 ((rd_T93 l1 (rd t396 x33_2)).f2.f0), .slice A413_5 ((rd_T93 l1 (rd t396 x33_2)).f2.f1).length c413_5, .int .i64 ((rd_T93 l1 (rd t396 x33_2)).f2.f2.f0), .int .i64 ((rd_T93 l1 (rd t396 x33_2)).f2.f2.f1), .int .i64 ((rd_T93 l1 (rd t396 x33_2)).f2.f2.f2)]] (by rfl) rfl rfl (by (try simp only [List.map_toArray, List.map_cons, List.map_nil]); first | done | rfl | (simp only [List.length_drop, List.length_take]; rfl)) ?_
                with_reducible refine (impl_EqualResources.calls k2 t402 _ _ t403 t406 t407 t408 ((rd_T93 l1 (rd t396 x33_2)).f2.f0) _ _ ((rd_T93 l1 (rd t396 x33_2)).f2.f1) ((rd_T93 l1 (rd t396 x33_2)).f2.f2.f0) ((rd_T93 l1 (rd t396 x33_2)).f2.f2.f1) ((rd_T93 l1 (rd t396 x33_2)).f2.f2.f2) true _ ?side1 ?side2 ?side3 ?side4 A23.out).mono ?_
                (case side1 => repeat (first | exact (Kd.R_reads' HO405.out).2.2 | (with_reducible refine Kd.C_alloc ?_ _) | (with_reducible refine Kd.C_drewN ?_ _) | (with_reducible refine Kd.C_drew ?_)))
                (case side2 => exact (Kd.R_reads' HO405.out).2.1)
                (case side3 => repeat (first | exact (Kd.C_below HR413_5.out HB.out) | (with_reducible refine Kd.C_alloc ?_ _) | (with_reducible refine Kd.C_drewN ?_ _) | (with_reducible refine Kd.C_drew ?_)))
                (case side4 => exact HC413_5.out)
                rintro e w31 ⟨rfl, hb⟩
                refine ⟨_, rfl, ?_⟩
                have n0_ := Aside0.mk (Kd.R_below (by (with_reducible repeat (first | apply Kd.R_alloc | apply Kd.R_drewN | apply Kd.R_drew)); exact HO_7.out) hb)
                have n1_ := Aside0.mk (Kd.R_below (by (with_reducible repeat (first | apply Kd.R_alloc | apply Kd.R_drewN | apply Kd.R_drew)); exact HO_31.out) hb)
                have n2_ := Aside0.mk (Kd.R_below (by (with_reducible repeat (first | apply Kd.R_alloc | apply Kd.R_drewN | apply Kd.R_drew)); exact HO405.out) hb)
                have n3_ := Aside0.mk (Kd.R_below (by (with_reducible repeat (first | apply Kd.R_alloc | apply Kd.R_drewN | apply Kd.R_drew)); exact HO411.out) hb)
                have n4_ := Aside0.mk (blk_below (g := gb412) (o := .cells #[.int .i64 t402, .slice Ao28 t403.length co28, .int .i64 t406, .int .i64 t407, .int .i64 t408] 51 (0, 0)) (by (with_reducible repeat (first | refine blk_drewN ?_ _ | refine blk_drew ?_ | refine blk_alloc ?_ _)); exact BK412.out) hb)
                have n5_ := Aside0.mk (below_step (by repeat (first | (with_reducible first | exact HB.out | apply below_alloc | apply pw_below_drewN | apply below_drew1 | refine below_set ?_ GE412.out) | exact HB.out)) hb)
                clear HO_7
                clear HO_31
                clear HO405
                clear HO411
                clear BK412
                clear HB
                have HO_7 := n0_
                have HO_31 := n1_
                have HO405 := n2_
                have HO411 := n3_
                have BK412 := n4_
                have HB := n5_
                clear n0_ n1_ n2_ n3_ n4_ n5_
                (try clear hb)
                (try clear hb2)
                (try clear hk)
                (try clear hi)
                refine hK.out _ _ ⟨(blk_cell BK412.out 0).trans rfl, (blk_cell BK412.out 1).trans rfl, (blk_cell BK412.out 2).trans rfl, (blk_cell BK412.out 3).trans rfl, (blk_cell BK412.out 4).trans rfl, ((HB.out.cell (World.block_lt_of_cell? w _ hw413_0)).trans hw413_0), ((HB.out.cell (World.block_lt_of_cell? w _ hw413_1)).trans hw413_1), ((HB.out.cell (World.block_lt_of_cell? w _ hw413_2)).trans hw413_2), ((HB.out.cell (World.block_lt_of_cell? w _ hw413_3)).trans hw413_3), ((HB.out.cell (World.block_lt_of_cell? w _ hw413_4)).trans hw413_4), ((HB.out.cell (World.block_lt_of_cell? w _ hw413_5)).trans hw413_5), ((HB.out.cell (World.block_lt_of_cell? w _ hw413_6)).trans hw413_6), ((HB.out.cell (World.block_lt_of_cell? w _ hw413_7)).trans hw413_7), ((HB.out.cell (World.block_lt_of_cell? w _ hw413_8)).trans hw413_8)⟩ (fun hHeld => ?_)
                clear hK K
                refine norm_ (a' := ?_) ?_ ?_
                rotate_left
                ·show Act.put _ (some 54) _ = _
                 simp only [Act.put, List.setIfInBounds_toArray, List.set_cons_zero, List.set_cons_succ, i64_w, i32_w]
                 rfl
                refine pure_ (i := 7) (N := some 55) (v := ?_) (a' := ?_) #[true, true, true, true, true, true, true, true] rfl rfl (any_of HT_.out (by kernel_rfl)) (fun _ _ _ h => h) (Or.inl ⟨by rfl, ?_⟩) ?_ ?_
                rotate_left
                ·intro w'
                 go_simp
                 with_reducible rfl
                rotate_left
                ·simp only [Act.put, List.setIfInBounds_toArray, List.set_cons_zero, List.set_cons_succ, i64_w, i32_w]
                 rfl
                refine done_ (done_of HT_.out (by kernel_rfl)) ?_
                try go_wp2
                go_roundg k2
                case measure => have := HK1.out; have := HK2.out; omega
                case rel => exact ⟨(x9_2), (wrap64 (x33_2 + 1)), (by first | rfl | (simp; done) | (simp [*]; done)), (by first | rfl | (simp; done) | (simp [*]; done)), H', ⟨by have := HK1.out; have := HK2.out; omega⟩, ⟨by (with_reducible repeat (first | apply Kd.R_alloc | apply Kd.R_drewN | apply Kd.R_drew)); exact Kd.R_mono HO_7.out (fun _ hk => trivial)⟩, ⟨by (with_reducible repeat (first | apply Kd.R_alloc | apply Kd.R_drewN | apply Kd.R_drew)); exact Kd.R_mono HO_31.out (fun _ hk => trivial)⟩, ⟨by repeat (first | (with_reducible first | exact HB.out | apply below_alloc | apply pw_below_drewN | apply below_drew1 | refine below_set ?_ GE412.out) | exact HB.out)⟩⟩
               ·replace c24 := Bool.eq_false_iff.mpr c24
                subst c24
                have H1 : (impl_CouldBe.l0 k2 l0 l1 t396 (wrap64 (x28_1 + 1))) = some r := by rw [if_neg (show ¬ (false = true) by decide)] at H; exact H
                clear H
                have H := H1
                clear H1
                have H' := Aside0.mk H
                clear H
                have p400 : 0 ≤ (x33_2 : Int) := of_decide_eq_true (by first | (with_reducible assumption) | assumption)
                have q400 : x33_2 < (t396.length : Int) := of_decide_eq_true (by first | (with_reducible assumption) | assumption)
                obtain ⟨ad400, e400, hx400_0⟩ := Kd.at_int (Kd.R_reads' HO_31.out).2.2 x33_2 p400 q400
                obtain rfl : ad399 = ad400 := (by injection e400)
                replace p400 := eq_true p400
                replace q400 := eq_true q400
                have p401 : 0 ≤ ((rd t396 x33_2) : Int) := of_decide_eq_true (by first | (with_reducible assumption) | assumption)
                have q401 : (rd t396 x33_2) < (l1.length : Int) := of_decide_eq_true (by first | (with_reducible assumption) | assumption)
                obtain ⟨ad401, A401_5, c401_5, e401, hx401_0, hx401_1, hx401_2, hx401_3, hx401_4, hx401_5, hx401_6, hx401_7, hx401_8, hl401_5, hi401_5⟩ := at_T93 HR1.out (rd t396 x33_2) p401 q401
                cases e401
                replace hx401_0 := (HB.out.cell (World.block_lt_of_cell? w _ hx401_0)).trans hx401_0
                replace hx401_1 := (HB.out.cell (World.block_lt_of_cell? w _ hx401_1)).trans hx401_1
                replace hx401_2 := (HB.out.cell (World.block_lt_of_cell? w _ hx401_2)).trans hx401_2
                replace hx401_3 := (HB.out.cell (World.block_lt_of_cell? w _ hx401_3)).trans hx401_3
                replace hx401_4 := (HB.out.cell (World.block_lt_of_cell? w _ hx401_4)).trans hx401_4
                replace hx401_5 := (HB.out.cell (World.block_lt_of_cell? w _ hx401_5)).trans hx401_5
                replace hx401_6 := (HB.out.cell (World.block_lt_of_cell? w _ hx401_6)).trans hx401_6
                replace hx401_7 := (HB.out.cell (World.block_lt_of_cell? w _ hx401_7)).trans hx401_7
                replace hx401_8 := (HB.out.cell (World.block_lt_of_cell? w _ hx401_8)).trans hx401_8
                have HR401_5 := Aside0.mk hi401_5
                have HC401_5 := Aside0.mk hl401_5
                clear hi401_5 hl401_5
                replace p401 := eq_true p401
                replace q401 := eq_true q401
                try go_wp2_with (first | ((with_reducible refine gate_callee (f := 94) rfl ?_); refine goesL_ (some 45) rfl rfl Try.func94 (by kernel_rfl) rfl #[.slice A0 l0.length c0, .agg #[.int .i64 ((rd_T93 l1 (rd t396 x33_2)).f0.f0), .int .i64 ((rd_T93 l1 (rd t396 x33_2)).f0.f1), .int .i64 ((rd_T93 l1 (rd t396 x33_2)).f0.f2)], .int .i64 x28_1] rfl (by (try simp only [List.map_toArray, List.map_cons, List.map_nil]); first | done | rfl | (simp only [List.length_drop, List.length_take]; rfl)) ?_; (with_reducible refine (impl_FollowAt.calls k2 _ _ l0 ((rd_T93 l1 (rd t396 x33_2)).f0.f0) ((rd_T93 l1 (rd t396 x33_2)).f0.f1) ((rd_T93 l1 (rd t396 x33_2)).f0.f2) x28_1 t402 t403 t406 t407 t408 t409 _ ?side1 ?side2 A22.out).mono ?_); (case side1 => repeat (first | exact (Kd.C_below HR0.out HB.out) | (with_reducible refine Kd.C_alloc ?_ _) | (with_reducible refine Kd.C_drewN ?_ _) | (with_reducible refine Kd.C_drew ?_))); (case side2 => exact HC0.out); rintro e w32 ⟨v404, v410, rfl, ho0, ho1, hb⟩; refine ⟨_, rfl, ?_⟩; have n0_ := Aside0.mk (Kd.R_elder' (by (with_reducible repeat (first | apply Kd.R_alloc | apply Kd.R_drewN | apply Kd.R_drew)); exact HO_7.out) (Kd.R_base ho0) hb); have n1_ := Aside0.mk (Kd.R_elder' (by (with_reducible repeat (first | apply Kd.R_alloc | apply Kd.R_drewN | apply Kd.R_drew)); exact HO_31.out) (Kd.R_base ho0) hb); have n2_ := Aside0.mk (Kd.R_lower (Kd.R_new' (Kd.R_new' ho0 (Kd.R_lt (by (with_reducible repeat (first | apply Kd.R_alloc | apply Kd.R_drewN | apply Kd.R_drew)); exact HO_7.out))) (Kd.R_lt (by (with_reducible repeat (first | apply Kd.R_alloc | apply Kd.R_drewN | apply Kd.R_drew)); exact HO_31.out))) (below_size (by repeat (first | (with_reducible first | exact HB.out | apply below_alloc | apply pw_below_drewN | apply below_drew1) | exact HB.out)))); have n3_ := Aside0.mk (Kd.R_lower ho1 (below_size (by repeat (first | (with_reducible first | exact HB.out | apply below_alloc | apply pw_below_drewN | apply below_drew1) | exact HB.out)))); have n4_ := Aside0.mk (below_step (by repeat (first | (with_reducible first | exact HB.out | apply below_alloc | apply pw_below_drewN | apply below_drew1) | exact HB.out)) hb); clear HO_7; clear HO_31; clear HB; have HO_7 := n0_; have HO_31 := n1_; have HO405 := n2_; have HO411 := n3_; have HB := n4_; clear n0_ n1_ n2_ n3_ n4_; (try clear hb); (try clear hb2); (try clear hk); (try clear hi); (try clear ho0); (try clear ho1)) | ((with_reducible refine gate_dst (N := 12) rfl ?_); refine box_event ?hg (N := 12) ?hd (cs := #[.int .i64 0, .slice none 0 0, .int .i64 0, .int .i64 0, .int .i64 0]) (t := 51) ?hr ?_; (case hd => rfl); (case hg => rfl); (case hr => first | (go_simp; done) | (go_simp; rfl)); intro gb412 hg w33 hbox hb; have n0_ := Aside0.mk (Kd.R_below (by (with_reducible repeat (first | apply Kd.R_alloc | apply Kd.R_drewN | apply Kd.R_drew)); exact HO_7.out) hb); have n1_ := Aside0.mk (Kd.R_below (by (with_reducible repeat (first | apply Kd.R_alloc | apply Kd.R_drewN | apply Kd.R_drew)); exact HO_31.out) hb); have n2_ := Aside0.mk (Kd.R_below (by (with_reducible repeat (first | apply Kd.R_alloc | apply Kd.R_drewN | apply Kd.R_drew)); exact HO405.out) hb); have n3_ := Aside0.mk (Kd.R_below (by (with_reducible repeat (first | apply Kd.R_alloc | apply Kd.R_drewN | apply Kd.R_drew)); exact HO411.out) hb); have n4_ := Aside0.mk (below_step (by repeat (first | (with_reducible first | exact HB.out | apply below_alloc | apply pw_below_drewN | apply below_drew1) | exact HB.out)) hb); have n5_ := Aside0.mk (hbox); have n6_ := Aside0.mk ((by rw [hg]; exact (below_size (by repeat (first | (with_reducible first | exact HB.out | apply below_alloc | apply pw_below_drewN | apply below_drew1) | exact HB.out))) : w.heap.size ≤ gb412)); have n7_ := Aside0.mk ((by rw [hg]; exact (below_size (by repeat (first | (with_reducible first | exact HB.out | apply below_alloc | apply pw_below_drewN | apply below_drew1) | exact HB.out))) : w.heap.size ≤ gb412)); clear HO_7; clear HO_31; clear HO405; clear HO411; clear HB; have HO_7 := n0_; have HO_31 := n1_; have HO405 := n2_; have HO411 := n3_; have HB := n4_; have BK412 := n5_; have GW412 := n6_; have GE412 := n7_; clear n0_ n1_ n2_ n3_ n4_ n5_ n6_ n7_; clear hb hbox hg; have hcz34_0 : w33.cell? ⟨gb412, 0, none⟩ = some (.int .i64 0) := (blk_cell BK412.out 0).trans rfl; have hcz34_1 : w33.cell? ⟨gb412, 1, none⟩ = some (.slice none 0 0) := (blk_cell BK412.out 1).trans rfl; have hcz34_2 : w33.cell? ⟨gb412, 2, none⟩ = some (.int .i64 0) := (blk_cell BK412.out 2).trans rfl; have hcz34_3 : w33.cell? ⟨gb412, 3, none⟩ = some (.int .i64 0) := (blk_cell BK412.out 3).trans rfl; have hcz34_4 : w33.cell? ⟨gb412, 4, none⟩ = some (.int .i64 0) := (blk_cell BK412.out 4).trans rfl; have hfz34_0 := blk_frozen BK412.out 0; have hfz34_1 := blk_frozen BK412.out 1; have hfz34_2 := blk_frozen BK412.out 2; have hfz34_3 := blk_frozen BK412.out 3; have hfz34_4 := blk_frozen BK412.out 4; obtain ⟨Ao35, co35, eo35⟩ := Kd.R_slice HO405.out; subst eo35))
                have n0_ : Aside0 (Kd.R (Kd.int .i64) 3 (((((w33.setCell ⟨gb412, 0, none⟩ (.int .i64 t402)).setCell ⟨gb412, 1, none⟩ (.slice Ao35 t403.length co35)).setCell ⟨gb412, 2, none⟩ (.int .i64 t406)).setCell ⟨gb412, 3, none⟩ (.int .i64 t407)).setCell ⟨gb412, 4, none⟩ (.int .i64 t408)) w.heap.size (fun k_ => some k_ ≠ (.slice Ao35 t403.length co35 : Value).ownBlock) (.slice (some ad399) t396.length co15) t396) := ⟨by (with_reducible repeat (first | apply Kd.R_alloc | apply Kd.R_drewN | apply Kd.R_drew)); exact Kd.R_mono (Kd.R_far (p := ⟨gb412, 4, none⟩) (Kd.R_far (p := ⟨gb412, 3, none⟩) (Kd.R_far (p := ⟨gb412, 2, none⟩) (Kd.R_far (p := ⟨gb412, 1, none⟩) (Kd.R_far (p := ⟨gb412, 0, none⟩) (Kd.R_types HO_7.out BK412.out (by decide)) (fun _ hk => by first | exact hk.2 | simp_all) (.int .i64 t402)) (fun _ hk => by first | exact hk.2 | simp_all) (.slice Ao35 t403.length co35)) (fun _ hk => by first | exact hk.2 | simp_all) (.int .i64 t406)) (fun _ hk => by first | exact hk.2 | simp_all) (.int .i64 t407)) (fun _ hk => by first | exact hk.2 | simp_all) (.int .i64 t408)) (fun _ hk => by first | exact hk.1.2 | simp_all)⟩
                have n1_ : Aside0 (Kd.R (Kd.int .i64) 3 (((((w33.setCell ⟨gb412, 0, none⟩ (.int .i64 t402)).setCell ⟨gb412, 1, none⟩ (.slice Ao35 t403.length co35)).setCell ⟨gb412, 2, none⟩ (.int .i64 t406)).setCell ⟨gb412, 3, none⟩ (.int .i64 t407)).setCell ⟨gb412, 4, none⟩ (.int .i64 t408)) w.heap.size (fun k_ => some k_ ≠ (.slice Ao35 t403.length co35 : Value).ownBlock) (.slice (some ad399) t396.length co15) t396) := ⟨by (with_reducible repeat (first | apply Kd.R_alloc | apply Kd.R_drewN | apply Kd.R_drew)); exact Kd.R_mono (Kd.R_far (p := ⟨gb412, 4, none⟩) (Kd.R_far (p := ⟨gb412, 3, none⟩) (Kd.R_far (p := ⟨gb412, 2, none⟩) (Kd.R_far (p := ⟨gb412, 1, none⟩) (Kd.R_far (p := ⟨gb412, 0, none⟩) (Kd.R_types HO_31.out BK412.out (by decide)) (fun _ hk => by first | exact hk.2 | simp_all) (.int .i64 t402)) (fun _ hk => by first | exact hk.2 | simp_all) (.slice Ao35 t403.length co35)) (fun _ hk => by first | exact hk.2 | simp_all) (.int .i64 t406)) (fun _ hk => by first | exact hk.2 | simp_all) (.int .i64 t407)) (fun _ hk => by first | exact hk.2 | simp_all) (.int .i64 t408)) (fun _ hk => by first | exact hk.1.2 | simp_all)⟩
                have n2_ : Aside0 (Kd.R (Kd.int .i64) 3 (((((w33.setCell ⟨gb412, 0, none⟩ (.int .i64 t402)).setCell ⟨gb412, 1, none⟩ (.slice Ao35 t403.length co35)).setCell ⟨gb412, 2, none⟩ (.int .i64 t406)).setCell ⟨gb412, 3, none⟩ (.int .i64 t407)).setCell ⟨gb412, 4, none⟩ (.int .i64 t408)) w.heap.size (fun k_ => some k_ ≠ (.slice (some ad399) t396.length co15 : Value).ownBlock ∧ some k_ ≠ (.slice (some ad399) t396.length co15 : Value).ownBlock) (.slice Ao35 t403.length co35) t403) := ⟨by (with_reducible repeat (first | apply Kd.R_alloc | apply Kd.R_drewN | apply Kd.R_drew)); exact Kd.R_mono (Kd.R_far (p := ⟨gb412, 4, none⟩) (Kd.R_far (p := ⟨gb412, 3, none⟩) (Kd.R_far (p := ⟨gb412, 2, none⟩) (Kd.R_far (p := ⟨gb412, 1, none⟩) (Kd.R_far (p := ⟨gb412, 0, none⟩) (Kd.R_types HO405.out BK412.out (by decide)) (fun _ hk => by first | exact hk.2 | simp_all) (.int .i64 t402)) (fun _ hk => by first | exact hk.2 | simp_all) (.slice Ao35 t403.length co35)) (fun _ hk => by first | exact hk.2 | simp_all) (.int .i64 t406)) (fun _ hk => by first | exact hk.2 | simp_all) (.int .i64 t407)) (fun _ hk => by first | exact hk.2 | simp_all) (.int .i64 t408)) (fun _ hk => by first | exact ⟨hk.1.1.2, hk.1.2⟩ | simp_all)⟩
                have n3_ : Aside0 (Kd.R k31 31 (((((w33.setCell ⟨gb412, 0, none⟩ (.int .i64 t402)).setCell ⟨gb412, 1, none⟩ (.slice Ao35 t403.length co35)).setCell ⟨gb412, 2, none⟩ (.int .i64 t406)).setCell ⟨gb412, 3, none⟩ (.int .i64 t407)).setCell ⟨gb412, 4, none⟩ (.int .i64 t408)) w.heap.size (fun _ => True) v410 t409) := ⟨by (with_reducible repeat (first | apply Kd.R_alloc | apply Kd.R_drewN | apply Kd.R_drew)); exact Kd.R_mono (Kd.R_far (p := ⟨gb412, 4, none⟩) (Kd.R_far (p := ⟨gb412, 3, none⟩) (Kd.R_far (p := ⟨gb412, 2, none⟩) (Kd.R_far (p := ⟨gb412, 1, none⟩) (Kd.R_far (p := ⟨gb412, 0, none⟩) (Kd.R_types HO411.out BK412.out (by decide)) (fun _ hk => by first | exact hk.2 | simp_all) (.int .i64 t402)) (fun _ hk => by first | exact hk.2 | simp_all) (.slice Ao35 t403.length co35)) (fun _ hk => by first | exact hk.2 | simp_all) (.int .i64 t406)) (fun _ hk => by first | exact hk.2 | simp_all) (.int .i64 t407)) (fun _ hk => by first | exact hk.2 | simp_all) (.int .i64 t408)) (fun _ hk => trivial)⟩
                have n4_ : Aside0 ((((((w33.setCell ⟨gb412, 0, none⟩ (.int .i64 t402)).setCell ⟨gb412, 1, none⟩ (.slice Ao35 t403.length co35)).setCell ⟨gb412, 2, none⟩ (.int .i64 t406)).setCell ⟨gb412, 3, none⟩ (.int .i64 t407)).setCell ⟨gb412, 4, none⟩ (.int .i64 t408)).heap[gb412]? = some (.cells #[.int .i64 t402, .slice Ao35 t403.length co35, .int .i64 t406, .int .i64 t407, .int .i64 t408] 51 (0, 0))) := ⟨by (with_reducible repeat (first | refine blk_drewN ?_ _ | refine blk_drew ?_ | refine blk_alloc ?_ _)); refine blk_put (cs := #[.int .i64 t402, .slice Ao35 t403.length co35, .int .i64 t406, .int .i64 t407, .int .i64 0]) ?_ 4 _ rfl; (with_reducible repeat (first | refine blk_drewN ?_ _ | refine blk_drew ?_ | refine blk_alloc ?_ _)); refine blk_put (cs := #[.int .i64 t402, .slice Ao35 t403.length co35, .int .i64 t406, .int .i64 0, .int .i64 0]) ?_ 3 _ rfl; (with_reducible repeat (first | refine blk_drewN ?_ _ | refine blk_drew ?_ | refine blk_alloc ?_ _)); refine blk_put (cs := #[.int .i64 t402, .slice Ao35 t403.length co35, .int .i64 0, .int .i64 0, .int .i64 0]) ?_ 2 _ rfl; (with_reducible repeat (first | refine blk_drewN ?_ _ | refine blk_drew ?_ | refine blk_alloc ?_ _)); refine blk_put (cs := #[.int .i64 t402, .slice none 0 0, .int .i64 0, .int .i64 0, .int .i64 0]) ?_ 1 _ rfl; (with_reducible repeat (first | refine blk_drewN ?_ _ | refine blk_drew ?_ | refine blk_alloc ?_ _)); refine blk_put (cs := #[.int .i64 0, .slice none 0 0, .int .i64 0, .int .i64 0, .int .i64 0]) ?_ 0 _ rfl; (with_reducible repeat (first | refine blk_drewN ?_ _ | refine blk_drew ?_ | refine blk_alloc ?_ _)); exact BK412.out⟩
                have n5_ : Aside0 (Below w.heap.size w (((((w33.setCell ⟨gb412, 0, none⟩ (.int .i64 t402)).setCell ⟨gb412, 1, none⟩ (.slice Ao35 t403.length co35)).setCell ⟨gb412, 2, none⟩ (.int .i64 t406)).setCell ⟨gb412, 3, none⟩ (.int .i64 t407)).setCell ⟨gb412, 4, none⟩ (.int .i64 t408))) := ⟨by repeat (first | (with_reducible first | exact HB.out | apply below_alloc | apply pw_below_drewN | apply below_drew1 | refine below_set ?_ GE412.out) | exact HB.out)⟩
                (try clear HO_7)
                (try clear HO_31)
                (try clear HO405)
                (try clear HO411)
                (try clear BK412)
                (try clear HB)
                generalize (((((w33.setCell ⟨gb412, 0, none⟩ (.int .i64 t402)).setCell ⟨gb412, 1, none⟩ (.slice Ao35 t403.length co35)).setCell ⟨gb412, 2, none⟩ (.int .i64 t406)).setCell ⟨gb412, 3, none⟩ (.int .i64 t407)).setCell ⟨gb412, 4, none⟩ (.int .i64 t408)) = w36 at n0_ n1_ n2_ n3_ n4_ n5_ ⊢
                have HO_7 := n0_
                have HO_31 := n1_
                have HO405 := n2_
                have HO411 := n3_
                have BK412 := n4_
                have HB := n5_
                clear n0_ n1_ n2_ n3_ n4_ n5_
                have n0_ := Aside0.mk (Kd.R_drew HO_7.out)
                have n1_ := Aside0.mk (Kd.R_drew HO_31.out)
                have n2_ := Aside0.mk (Kd.R_drew HO405.out)
                have n3_ := Aside0.mk (Kd.R_drew HO411.out)
                have n4_ := Aside0.mk (blk_drew BK412.out)
                have n5_ := Aside0.mk (below_drew1 HB.out)
                clear HO_7
                clear HO_31
                clear HO405
                clear HO411
                clear BK412
                clear HB
                have HO_7 := n0_
                have HO_31 := n1_
                have HO405 := n2_
                have HO411 := n3_
                have BK412 := n4_
                have HB := n5_
                clear n0_ n1_ n2_ n3_ n4_ n5_
                have p413 : 0 ≤ ((rd t396 x33_2) : Int) := of_decide_eq_true (by first | (with_reducible assumption) | assumption)
                have q413 : (rd t396 x33_2) < (l1.length : Int) := of_decide_eq_true (by first | (with_reducible assumption) | assumption)
                obtain ⟨ad413, A413_5, c413_5, e413, hx413_0, hx413_1, hx413_2, hx413_3, hx413_4, hx413_5, hx413_6, hx413_7, hx413_8, hl413_5, hi413_5⟩ := at_T93 HR1.out (rd t396 x33_2) p413 q413
                have hw413_8 := hx413_8
                have hw413_7 := hx413_7
                have hw413_6 := hx413_6
                have hw413_5 := hx413_5
                have hw413_4 := hx413_4
                have hw413_3 := hx413_3
                have hw413_2 := hx413_2
                have hw413_1 := hx413_1
                have hw413_0 := hx413_0
                obtain rfl : ad401 = ad413 := (by injection e413)
                replace hx413_0 := (HB.out.cell (World.block_lt_of_cell? w _ hx413_0)).trans hx413_0
                replace hx413_1 := (HB.out.cell (World.block_lt_of_cell? w _ hx413_1)).trans hx413_1
                replace hx413_2 := (HB.out.cell (World.block_lt_of_cell? w _ hx413_2)).trans hx413_2
                replace hx413_3 := (HB.out.cell (World.block_lt_of_cell? w _ hx413_3)).trans hx413_3
                replace hx413_4 := (HB.out.cell (World.block_lt_of_cell? w _ hx413_4)).trans hx413_4
                replace hx413_5 := (HB.out.cell (World.block_lt_of_cell? w _ hx413_5)).trans hx413_5
                replace hx413_6 := (HB.out.cell (World.block_lt_of_cell? w _ hx413_6)).trans hx413_6
                replace hx413_7 := (HB.out.cell (World.block_lt_of_cell? w _ hx413_7)).trans hx413_7
                replace hx413_8 := (HB.out.cell (World.block_lt_of_cell? w _ hx413_8)).trans hx413_8
                have HR413_5 := Aside0.mk hi413_5
                have HC413_5 := Aside0.mk hl413_5
                clear hi413_5 hl413_5
                replace p413 := eq_true p413
                replace q413 := eq_true q413
                refine start_ (n := 8) (S := fun w' => w'.cell? ⟨gb412, 0, none⟩ = some (.int .i64 t402) ∧ w'.cell? ⟨gb412, 1, none⟩ = some (.slice Ao35 t403.length co35) ∧ w'.cell? ⟨gb412, 2, none⟩ = some (.int .i64 t406) ∧ w'.cell? ⟨gb412, 3, none⟩ = some (.int .i64 t407) ∧ w'.cell? ⟨gb412, 4, none⟩ = some (.int .i64 t408) ∧ w'.cell? (ad401.add (((rd t396 x33_2)).toNat * 9)) = some (.int .i64 ((rd_T93 l1 (rd t396 x33_2)).f0.f0)) ∧ w'.cell? ⟨(ad401.add (((rd t396 x33_2)).toNat * 9)).block, (ad401.add (((rd t396 x33_2)).toNat * 9)).off + 1, none⟩ = some (.int .i64 ((rd_T93 l1 (rd t396 x33_2)).f0.f1)) ∧ w'.cell? ⟨(ad401.add (((rd t396 x33_2)).toNat * 9)).block, (ad401.add (((rd t396 x33_2)).toNat * 9)).off + 2, none⟩ = some (.int .i64 ((rd_T93 l1 (rd t396 x33_2)).f0.f2)) ∧ w'.cell? ⟨(ad401.add (((rd t396 x33_2)).toNat * 9)).block, (ad401.add (((rd t396 x33_2)).toNat * 9)).off + 3, none⟩ = some (.int .i64 ((rd_T93 l1 (rd t396 x33_2)).f1)) ∧ w'.cell? ⟨(ad401.add (((rd t396 x33_2)).toNat * 9)).block, (ad401.add (((rd t396 x33_2)).toNat * 9)).off + 4, none⟩ = some (.int .i64 ((rd_T93 l1 (rd t396 x33_2)).f2.f0)) ∧ w'.cell? ⟨(ad401.add (((rd t396 x33_2)).toNat * 9)).block, (ad401.add (((rd t396 x33_2)).toNat * 9)).off + 5, none⟩ = some (.slice A413_5 ((rd_T93 l1 (rd t396 x33_2)).f2.f1).length c413_5) ∧ w'.cell? ⟨(ad401.add (((rd t396 x33_2)).toNat * 9)).block, (ad401.add (((rd t396 x33_2)).toNat * 9)).off + 6, none⟩ = some (.int .i64 ((rd_T93 l1 (rd t396 x33_2)).f2.f2.f0)) ∧ w'.cell? ⟨(ad401.add (((rd t396 x33_2)).toNat * 9)).block, (ad401.add (((rd t396 x33_2)).toNat * 9)).off + 7, none⟩ = some (.int .i64 ((rd_T93 l1 (rd t396 x33_2)).f2.f2.f1)) ∧ w'.cell? ⟨(ad401.add (((rd t396 x33_2)).toNat * 9)).block, (ad401.add (((rd t396 x33_2)).toNat * 9)).off + 8, none⟩ = some (.int .i64 ((rd_T93 l1 (rd t396 x33_2)).f2.f2.f2))) (ds := []) #[false, false, false, false, false, false, false, false] (by kernel_rfl) rfl rfl ⟨(blk_cell BK412.out 0).trans rfl, (blk_cell BK412.out 1).trans rfl, (blk_cell BK412.out 2).trans rfl, (blk_cell BK412.out 3).trans rfl, (blk_cell BK412.out 4).trans rfl, ((HB.out.cell (World.block_lt_of_cell? w _ hw413_0)).trans hw413_0), ((HB.out.cell (World.block_lt_of_cell? w _ hw413_1)).trans hw413_1), ((HB.out.cell (World.block_lt_of_cell? w _ hw413_2)).trans hw413_2), ((HB.out.cell (World.block_lt_of_cell? w _ hw413_3)).trans hw413_3), ((HB.out.cell (World.block_lt_of_cell? w _ hw413_4)).trans hw413_4), ((HB.out.cell (World.block_lt_of_cell? w _ hw413_5)).trans hw413_5), ((HB.out.cell (World.block_lt_of_cell? w _ hw413_6)).trans hw413_6), ((HB.out.cell (World.block_lt_of_cell? w _ hw413_7)).trans hw413_7), ((HB.out.cell (World.block_lt_of_cell? w _ hw413_8)).trans hw413_8)⟩ (fun hHeld => ?_); refine with_tabW impl_CouldBe.tab14 impl_CouldBe.bits14 (fun HT_ HW_ => ?_)
                generalize w36.drew = w37 at HO_7 HO_31 HO405 HO411 BK412 HB HR413_5 hx413_0 hx413_1 hx413_2 hx413_3 hx413_4 hx413_5 hx413_6 hx413_7 hx413_8 hHeld ⊢
                refine pure_ (i := 1) (N := some 49) (v := ?_) (a' := ?_) #[false, true, false, false, false, false, false, false] rfl rfl (any_of HT_.out (by kernel_rfl)) (fun _ _ _ h => h) (Or.inl ⟨by rfl, ?_⟩) ?_ ?_
                rotate_left
                ·intro w'
                 go_simp
                 with_reducible rfl
                rotate_left
                ·simp only [Act.put, List.setIfInBounds_toArray, List.set_cons_zero, List.set_cons_succ, i64_w, i32_w]
                 rfl
                refine pure_ (i := 2) (N := some 50) (v := ?_) (a' := ?_) #[false, true, true, false, false, false, false, false] rfl rfl (any_of HT_.out (by kernel_rfl)) (fun _ _ _ h => h) (Or.inl ⟨by rfl, ?_⟩) ?_ ?_
                rotate_left
                ·intro w'
                 go_simp
                 with_reducible rfl
                rotate_left
                ·simp only [Act.put, List.setIfInBounds_toArray, List.set_cons_zero, List.set_cons_succ, i64_w, i32_w]
                 rfl
                refine pure_ (i := 3) (N := some 51) (v := ?_) (a' := ?_) #[false, true, true, true, false, false, false, false] rfl rfl (any_of HT_.out (by kernel_rfl)) (fun _ _ _ h => h) (Or.inl ⟨by rfl, ?_⟩) ?_ ?_
                rotate_left
                ·intro w'
                 go_simp
                 with_reducible rfl
                rotate_left
                ·simp only [Act.put, List.setIfInBounds_toArray, List.set_cons_zero, List.set_cons_succ, i64_w, i32_w]
                 rfl
                refine pure_ (i := 4) (N := some 52) (v := ?_) (a' := ?_) #[false, true, true, true, true, false, false, false] rfl rfl (any_of HT_.out (by kernel_rfl)) (fun _ _ _ h => h) (Or.inl ⟨by rfl, ?_⟩) ?_ ?_
                rotate_left
                ·intro w'
                 go_simp
                 with_reducible rfl
                rotate_left
                ·simp only [Act.put, List.setIfInBounds_toArray, List.set_cons_zero, List.set_cons_succ, i64_w, i32_w]
                 rfl
                refine take_ (i := 0) (N := some 48) (v := ?_) (a' := ?_) #[true, true, true, true, true, false, false, false] rfl rfl (take_ofW HT_.out HW_.out (by kernel_rfl)) (fun _ _ _ h => h) (Or.inl ⟨by rfl, ?_⟩) hHeld ?_ ?_
                rotate_left
                ·rintro w' ⟨s0, s1, s2, s3, s4, s5, s6, s7, s8, s9, s10, s11, s12, s13⟩
                 go_simp
                 with_reducible rfl
                rotate_left
                ·simp only [Act.put, List.setIfInBounds_toArray, List.set_cons_zero, List.set_cons_succ, i64_w, i32_w]
                 rfl
                refine take_ (i := 5) (N := some 53) (v := ?_) (a' := ?_) #[true, true, true, true, true, true, false, false] rfl rfl (take_ofW HT_.out HW_.out (by kernel_rfl)) (fun _ _ _ h => h) (Or.inl ⟨by rfl, ?_⟩) hHeld ?_ ?_
                rotate_left
                ·rintro w' ⟨s0, s1, s2, s3, s4, s5, s6, s7, s8, s9, s10, s11, s12, s13⟩
                 go_simp
                 with_reducible rfl
                rotate_left
                ·simp only [Act.put, List.setIfInBounds_toArray, List.set_cons_zero, List.set_cons_succ, i64_w, i32_w]
                 rfl
                refine one_ (i := 6) (N := some 54) #[true, true, true, true, true, true, true, false] rfl rfl (one_of HT_.out (by kernel_rfl)) (by decide) (fun K hK => ?_)
                refine goes_ Try.func144 (by kernel_rfl) rfl #[.agg #[.int .i64 t402, .slice Ao35 t403.length co35, .int .i64 t406, .int .i64 t407, .int .i64 t408], .agg #[.int .i64 ((rd_T93 l1 (rd t396 x33_2)).f2.f0), .slice A413_5 ((rd_T93 l1 (rd t396 x33_2)).f2.f1).length c413_5, .int .i64 ((rd_T93 l1 (rd t396 x33_2)).f2.f2.f0), .int .i64 ((rd_T93 l1 (rd t396 x33_2)).f2.f2.f1), .int .i64 ((rd_T93 l1 (rd t396 x33_2)).f2.f2.f2)]] (by rfl) rfl rfl (by (try simp only [List.map_toArray, List.map_cons, List.map_nil]); first | done | rfl | (simp only [List.length_drop, List.length_take]; rfl)) ?_
                with_reducible refine (impl_EqualResources.calls k2 t402 _ _ t403 t406 t407 t408 ((rd_T93 l1 (rd t396 x33_2)).f2.f0) _ _ ((rd_T93 l1 (rd t396 x33_2)).f2.f1) ((rd_T93 l1 (rd t396 x33_2)).f2.f2.f0) ((rd_T93 l1 (rd t396 x33_2)).f2.f2.f1) ((rd_T93 l1 (rd t396 x33_2)).f2.f2.f2) false _ ?side1 ?side2 ?side3 ?side4 A23.out).mono ?_
                (case side1 => repeat (first | exact (Kd.R_reads' HO405.out).2.2 | (with_reducible refine Kd.C_alloc ?_ _) | (with_reducible refine Kd.C_drewN ?_ _) | (with_reducible refine Kd.C_drew ?_)))
                (case side2 => exact (Kd.R_reads' HO405.out).2.1)
                (case side3 => repeat (first | exact (Kd.C_below HR413_5.out HB.out) | (with_reducible refine Kd.C_alloc ?_ _) | (with_reducible refine Kd.C_drewN ?_ _) | (with_reducible refine Kd.C_drew ?_)))
                (case side4 => exact HC413_5.out)
                rintro e w38 ⟨rfl, hb⟩
                refine ⟨_, rfl, ?_⟩
                have n0_ := Aside0.mk (Kd.R_below (by (with_reducible repeat (first | apply Kd.R_alloc | apply Kd.R_drewN | apply Kd.R_drew)); exact HO_7.out) hb)
                have n1_ := Aside0.mk (Kd.R_below (by (with_reducible repeat (first | apply Kd.R_alloc | apply Kd.R_drewN | apply Kd.R_drew)); exact HO_31.out) hb)
                have n2_ := Aside0.mk (Kd.R_below (by (with_reducible repeat (first | apply Kd.R_alloc | apply Kd.R_drewN | apply Kd.R_drew)); exact HO405.out) hb)
                have n3_ := Aside0.mk (Kd.R_below (by (with_reducible repeat (first | apply Kd.R_alloc | apply Kd.R_drewN | apply Kd.R_drew)); exact HO411.out) hb)
                have n4_ := Aside0.mk (blk_below (g := gb412) (o := .cells #[.int .i64 t402, .slice Ao35 t403.length co35, .int .i64 t406, .int .i64 t407, .int .i64 t408] 51 (0, 0)) (by (with_reducible repeat (first | refine blk_drewN ?_ _ | refine blk_drew ?_ | refine blk_alloc ?_ _)); exact BK412.out) hb)
                have n5_ := Aside0.mk (below_step (by repeat (first | (with_reducible first | exact HB.out | apply below_alloc | apply pw_below_drewN | apply below_drew1 | refine below_set ?_ GE412.out) | exact HB.out)) hb)
                clear HO_7
                clear HO_31
                clear HO405
                clear HO411
                clear BK412
                clear HB
                have HO_7 := n0_
                have HO_31 := n1_
                have HO405 := n2_
                have HO411 := n3_
                have BK412 := n4_
                have HB := n5_
                clear n0_ n1_ n2_ n3_ n4_ n5_
                (try clear hb)
                (try clear hb2)
                (try clear hk)
                (try clear hi)
                refine hK.out _ _ ⟨(blk_cell BK412.out 0).trans rfl, (blk_cell BK412.out 1).trans rfl, (blk_cell BK412.out 2).trans rfl, (blk_cell BK412.out 3).trans rfl, (blk_cell BK412.out 4).trans rfl, ((HB.out.cell (World.block_lt_of_cell? w _ hw413_0)).trans hw413_0), ((HB.out.cell (World.block_lt_of_cell? w _ hw413_1)).trans hw413_1), ((HB.out.cell (World.block_lt_of_cell? w _ hw413_2)).trans hw413_2), ((HB.out.cell (World.block_lt_of_cell? w _ hw413_3)).trans hw413_3), ((HB.out.cell (World.block_lt_of_cell? w _ hw413_4)).trans hw413_4), ((HB.out.cell (World.block_lt_of_cell? w _ hw413_5)).trans hw413_5), ((HB.out.cell (World.block_lt_of_cell? w _ hw413_6)).trans hw413_6), ((HB.out.cell (World.block_lt_of_cell? w _ hw413_7)).trans hw413_7), ((HB.out.cell (World.block_lt_of_cell? w _ hw413_8)).trans hw413_8)⟩ (fun hHeld => ?_)
                clear hK K
                refine norm_ (a' := ?_) ?_ ?_
                rotate_left
                ·show Act.put _ (some 54) _ = _
                 simp only [Act.put, List.setIfInBounds_toArray, List.set_cons_zero, List.set_cons_succ, i64_w, i32_w]
                 rfl
                refine pure_ (i := 7) (N := some 55) (v := ?_) (a' := ?_) #[true, true, true, true, true, true, true, true] rfl rfl (any_of HT_.out (by kernel_rfl)) (fun _ _ _ h => h) (Or.inl ⟨by rfl, ?_⟩) ?_ ?_
                rotate_left
                ·intro w'
                 go_simp
                 with_reducible rfl
                rotate_left
                ·simp only [Act.put, List.setIfInBounds_toArray, List.set_cons_zero, List.set_cons_succ, i64_w, i32_w]
                 rfl
                refine done_ (done_of HT_.out (by kernel_rfl)) ?_
                try go_wp2
                go_roundg k2
                case measure => have := HK1.out; have := HK2.out; omega
                case rel => exact ⟨(wrap64 (x28_1 + 1)), (by first | rfl | (simp; done) | (simp [*]; done)), H', ⟨by have := HK1.out; have := HK2.out; omega⟩, ⟨by (with_reducible repeat (first | apply Kd.R_alloc | apply Kd.R_drewN | apply Kd.R_drew)); exact Kd.R_mono HO_7.out (fun _ hk => trivial)⟩, ⟨by repeat (first | (with_reducible first | exact HB.out | apply below_alloc | apply pw_below_drewN | apply below_drew1 | refine below_set ?_ GE412.out) | exact HB.out)⟩⟩
              ·rw [if_neg c21] at H
               exact absurd H (by simp)
             ·rw [if_neg c20] at H
              exact absurd H (by simp)
            ·rw [if_neg c19] at H
             exact absurd H (by simp)
           ·rw [if_neg c18] at H
            exact absurd H (by simp)
          ·rw [if_neg c17] at H
           have c17b0 : decide (x33_2 < (t396.length : Int)) = false := decide_eq_false c17
           clear c17
           by_cases c39 : x9_2 = true
           ·subst c39
            have H1 : (some true) = some r := by rw [if_pos rfl] at H; exact H
            clear H
            have H := H1
            clear H1
            obtain rfl := Option.some.inj H
            go_wp2
            go_ret
            exact ⟨by first | rfl | (simp [errW_none, errW_some] <;> rfl) | (simp only [← hji8]; first | rfl | (simp [errW_none, errW_some] <;> rfl)) | (simp [*, errW_none, errW_some] <;> rfl), by repeat (first | (with_reducible first | exact HB.out | apply below_alloc | apply pw_below_drewN | apply below_drew1) | exact HB.out)⟩
           ·replace c39 := Bool.eq_false_iff.mpr c39
            subst c39
            have H1 : (impl_CouldBe.l0 k2 l0 l1 t396 (wrap64 (x28_1 + 1))) = some r := by rw [if_neg (show ¬ (false = true) by decide)] at H; exact H
            clear H
            have H := H1
            clear H1
            have H' := Aside0.mk H
            clear H
            go_wp2
            go_roundg k2
            case measure => have := HK1.out; have := HK2.out; omega
            case rel => exact ⟨(wrap64 (x28_1 + 1)), (by first | rfl | (simp; done) | (simp [*]; done)), H', ⟨by have := HK1.out; have := HK2.out; omega⟩, ⟨by (with_reducible repeat (first | apply Kd.R_alloc | apply Kd.R_drewN | apply Kd.R_drew)); exact HO_7.out⟩, ⟨by repeat (first | (with_reducible first | exact HB.out | apply below_alloc | apply pw_below_drewN | apply below_drew1) | exact HB.out)⟩⟩
       ·rw [if_neg c16] at H
        have c16b0 : decide (x28_1 < 1001) = false := decide_eq_false c16
        clear c16
        obtain rfl := Option.some.inj H
        go_wp2
        go_ret
        exact ⟨by first | rfl | (simp [errW_none, errW_some] <;> rfl) | (simp only [← hji8]; first | rfl | (simp [errW_none, errW_some] <;> rfl)) | (simp [*, errW_none, errW_some] <;> rfl), by repeat (first | (with_reducible first | exact HB.out | apply below_alloc | apply pw_below_drewN | apply below_drew1) | exact HB.out)⟩
   ·rw [if_neg c10] at H
    exact absurd H (by simp)
  ·rw [if_neg c9] at H
   exact absurd H (by simp)

/-! ### laws_eqVersion: function 145 -/
def laws_eqVersion.f (k : Nat) (a0_0 : Int) (a0_1 : Int) (a0_2 : Int) (a0_3 : Int) (a0_4 : Int) (l0_5 : List Int) (a0_6 : Int) (a0_7 : Int) (a0_8 : Int) (a1_0 : Int) (a1_1 : Int) (a1_2 : Int) (a1_3 : Int) (a1_4 : Int) (l1_5 : List Int) (a1_6 : Int) (a1_7 : Int) (a1_8 : Int) : Option (Bool) := (laws_eqAddress.f a0_0 a0_1 a0_2 a1_0 a1_1 a1_2).bind fun t417 => (if t417 = true then (if a0_3 = a1_3 then ((laws_eqResource.f k a0_4 l0_5 a0_6 a0_7 a0_8 a1_4 l1_5 a1_6 a1_7 a1_8).bind fun t418 => (if t418 = true then (some true) else (some false))) else (some false)) else (some false))
theorem laws_eqVersion.mono : ∀ a0 a1 a2 a3 a4 a5 a6 a7 a8 a9 a10 a11 a12 a13 a14 a15 a16 a17 k, LeO (laws_eqVersion.f k a0 a1 a2 a3 a4 a5 a6 a7 a8 a9 a10 a11 a12 a13 a14 a15 a16 a17) (laws_eqVersion.f (k + 1) a0 a1 a2 a3 a4 a5 a6 a7 a8 a9 a10 a11 a12 a13 a14 a15 a16 a17) := by
  intro a0 a1 a2 a3 a4 a5 a6 a7 a8 a9 a10 a11 a12 a13 a14 a15 a16 a17 k
  unfold laws_eqVersion.f
  repeat' first
      | (with_reducible exact laws_eqResource.mono _ _ _ _ _ _ _ _ _ _ _)
      | (with_reducible exact LeO.refl _)
      | (with_reducible exact LeO.none _)
      | (with_reducible refine LeO.ite ?_ ?_)
      | (with_reducible refine LeO.bind ?_ (fun _ => ?_))
      | exact laws_eqResource.mono _ _ _ _ _ _ _ _ _ _ _
      | exact LeO.none _
      | refine LeO.ite ?_ ?_
      | refine LeO.bind ?_ (fun _ => ?_)
set_option maxHeartbeats 8000000 in
set_option maxRecDepth 100000 in
theorem laws_eqVersion.calls (k : Nat) (a0_0 : Int) (a0_1 : Int) (a0_2 : Int) (a0_3 : Int) (a0_4 : Int) (A0_5 : Option Addr) (c0_5 : Nat) (l0_5 : List Int) (a0_6 : Int) (a0_7 : Int) (a0_8 : Int) (a1_0 : Int) (a1_1 : Int) (a1_2 : Int) (a1_3 : Int) (a1_4 : Int) (A1_5 : Option Addr) (c1_5 : Nat) (l1_5 : List Int) (a1_6 : Int) (a1_7 : Int) (a1_8 : Int) (r : Bool) (w : World) (hr0_5 : Kd.C (Kd.int .i64) w A0_5 l0_5.length l0_5) (hc0_5 : l0_5.length ≤ c0_5) (hr1_5 : Kd.C (Kd.int .i64) w A1_5 l1_5.length l1_5) (hc1_5 : l1_5.length ≤ c1_5) (hT_ : r = true) (h : laws_eqVersion.f k a0_0 a0_1 a0_2 a0_3 a0_4 l0_5 a0_6 a0_7 a0_8 a1_0 a1_1 a1_2 a1_3 a1_4 l1_5 a1_6 a1_7 a1_8 = some r) :
  Calls Try.prog 145 #[.agg #[.int .i64 a0_0, .int .i64 a0_1, .int .i64 a0_2, .int .i64 a0_3, .int .i64 a0_4, .slice A0_5 l0_5.length c0_5, .int .i64 a0_6, .int .i64 a0_7, .int .i64 a0_8], .agg #[.int .i64 a1_0, .int .i64 a1_1, .int .i64 a1_2, .int .i64 a1_3, .int .i64 a1_4, .slice A1_5 l1_5.length c1_5, .int .i64 a1_6, .int .i64 a1_7, .int .i64 a1_8]] w fun e w' => e = .returned (.bool r) ∧ Below w.heap.size w w' := by
 have hu179 := Try.underlying179
 have hu31 := Try.underlying31
 have hu51 := Try.underlying51
 have HR0_5 := Aside0.mk hr0_5
 have HC0_5 := Aside0.mk hc0_5
 clear hr0_5 hc0_5
 have HR1_5 := Aside0.mk hr1_5
 have HC1_5 := Aside0.mk hc1_5
 clear hr1_5 hc1_5
 have HB := Aside0.mk (Below.refl w.heap.size w)
 have H : ((laws_eqAddress.f a0_0 a0_1 a0_2 a1_0 a1_1 a1_2).bind fun t417 => (if t417 = true then (if a0_3 = a1_3 then ((laws_eqResource.f k a0_4 l0_5 a0_6 a0_7 a0_8 a1_4 l1_5 a1_6 a1_7 a1_8).bind fun t418 => (if t418 = true then (some true) else (some false))) else (some false)) else (some false))) = some r := h
 clear h
 replace H := Option.bind_eq_some_iff.mp H
 obtain ⟨t417, A30, H⟩ := H
 replace H : (if t417 = true then (if a0_3 = a1_3 then ((laws_eqResource.f k a0_4 l0_5 a0_6 a0_7 a0_8 a1_4 l1_5 a1_6 a1_7 a1_8).bind fun t418 => (if t418 = true then (some true) else (some false))) else (some false)) else (some false)) = some r := H
 have A3 := Aside0.mk A30
 clear A30
 by_cases c4 : t417 = true
 ·subst c4
  have H1 : (if a0_3 = a1_3 then ((laws_eqResource.f k a0_4 l0_5 a0_6 a0_7 a0_8 a1_4 l1_5 a1_6 a1_7 a1_8).bind fun t418 => (if t418 = true then (some true) else (some false))) else (some false)) = some r := by rw [if_pos rfl] at H; exact H
  clear H
  have H := H1
  clear H1
  by_cases c5 : a0_3 = a1_3
  ·rw [if_pos c5] at H
   have c5b0 : (a0_3 == a1_3) = true := beq_iff_eq.mpr c5
   have c5b1 : (a0_3 != a1_3) = false := bne_eq_false_iff_eq.mpr c5
   clear c5
   replace H := Option.bind_eq_some_iff.mp H
   obtain ⟨t418, A60, H⟩ := H
   replace H : (if t418 = true then (some true) else (some false)) = some r := H
   have A6 := Aside0.mk A60
   clear A60
   by_cases c7 : t418 = true
   ·subst c7
    have H1 : (some true) = some r := by rw [if_pos rfl] at H; exact H
    clear H
    have H := H1
    clear H1
    obtain rfl := Option.some.inj H
    go_enter Try.func145, Try.ntmps145
    go_wp2_with (first | ((with_reducible refine gate_dst (N := 2) rfl ?_); refine box_event ?hg (N := 2) ?hd (cs := #[.int .i64 a0_0, .int .i64 a0_1, .int .i64 a0_2, .int .i64 a0_3, .int .i64 a0_4, .slice A0_5 l0_5.length c0_5, .int .i64 a0_6, .int .i64 a0_7, .int .i64 a0_8]) (t := 179) ?hr ?_; (case hd => rfl); (case hg => rfl); (case hr => first | (go_simp; done) | (go_simp; rfl)); intro gb415 hg w8 hbox hb; have n0_ := Aside0.mk (below_step (by repeat (first | (with_reducible first | exact HB.out | apply below_alloc | apply pw_below_drewN | apply below_drew1) | exact HB.out)) hb); have n1_ := Aside0.mk (hbox); have n2_ := Aside0.mk ((by rw [hg]; exact (below_size (by repeat (first | (with_reducible first | exact HB.out | apply below_alloc | apply pw_below_drewN | apply below_drew1) | exact HB.out))) : w.heap.size ≤ gb415)); have n3_ := Aside0.mk ((by rw [hg]; exact (below_size (by repeat (first | (with_reducible first | exact HB.out | apply below_alloc | apply pw_below_drewN | apply below_drew1) | exact HB.out))) : w.heap.size ≤ gb415)); clear HB; have HB := n0_; have BK415 := n1_; have GW415 := n2_; have GE415 := n3_; clear n0_ n1_ n2_ n3_; clear hb hbox hg) | ((with_reducible refine gate_dst (N := 3) rfl ?_); refine box_event ?hg (N := 3) ?hd (cs := #[.int .i64 a1_0, .int .i64 a1_1, .int .i64 a1_2, .int .i64 a1_3, .int .i64 a1_4, .slice A1_5 l1_5.length c1_5, .int .i64 a1_6, .int .i64 a1_7, .int .i64 a1_8]) (t := 179) ?hr ?_; (case hd => rfl); (case hg => rfl); (case hr => first | (go_simp; done) | (go_simp; rfl)); intro gb416 hg w9 hbox hb; have n0_ := Aside0.mk (blk_below (g := gb415) (o := .cells #[.int .i64 a0_0, .int .i64 a0_1, .int .i64 a0_2, .int .i64 a0_3, .int .i64 a0_4, .slice A0_5 l0_5.length c0_5, .int .i64 a0_6, .int .i64 a0_7, .int .i64 a0_8] 179 (0, 0)) (by (with_reducible repeat (first | refine blk_drewN ?_ _ | refine blk_drew ?_ | refine blk_alloc ?_ _)); exact BK415.out) hb); have n1_ := Aside0.mk (below_step (by repeat (first | (with_reducible first | exact HB.out | apply below_alloc | apply pw_below_drewN | apply below_drew1 | refine below_set ?_ GE415.out) | exact HB.out)) hb); have n2_ := Aside0.mk (hbox); have n3_ := Aside0.mk ((by rw [hg]; exact (below_size (by repeat (first | (with_reducible first | exact HB.out | apply below_alloc | apply pw_below_drewN | apply below_drew1 | refine below_set ?_ GE415.out) | exact HB.out))) : w.heap.size ≤ gb416)); have n4_ := Aside0.mk ((by rw [hg]; exact (below_size (by repeat (first | (with_reducible first | exact HB.out | apply below_alloc | apply pw_below_drewN | apply below_drew1 | refine below_set ?_ GE415.out) | exact HB.out))) : w.heap.size ≤ gb416)); have n5_ := Aside0.mk ((by rw [hg]; exact Nat.ne_of_lt (blk_lt (g := gb415) (o := .cells #[.int .i64 a0_0, .int .i64 a0_1, .int .i64 a0_2, .int .i64 a0_3, .int .i64 a0_4, .slice A0_5 l0_5.length c0_5, .int .i64 a0_6, .int .i64 a0_7, .int .i64 a0_8] 179 (0, 0)) (by (with_reducible repeat (first | refine blk_drewN ?_ _ | refine blk_drew ?_ | refine blk_alloc ?_ _)); exact BK415.out)) : gb415 ≠ gb416)); have n6_ := Aside0.mk ((by rw [hg]; exact Nat.ne_of_gt (blk_lt (g := gb415) (o := .cells #[.int .i64 a0_0, .int .i64 a0_1, .int .i64 a0_2, .int .i64 a0_3, .int .i64 a0_4, .slice A0_5 l0_5.length c0_5, .int .i64 a0_6, .int .i64 a0_7, .int .i64 a0_8] 179 (0, 0)) (by (with_reducible repeat (first | refine blk_drewN ?_ _ | refine blk_drew ?_ | refine blk_alloc ?_ _)); exact BK415.out)) : gb416 ≠ gb415)); clear BK415; clear HB; have BK415 := n0_; have HB := n1_; have BK416 := n2_; have GW416 := n3_; have GE416 := n4_; have NB415_416 := n5_; have NB416_415 := n6_; clear n0_ n1_ n2_ n3_ n4_ n5_ n6_; clear hb hbox hg; have hnb10 := NB415_416.out; have hnc10 := NB416_415.out; have hcz11_0 : w9.cell? ⟨gb415, 0, none⟩ = some (.int .i64 a0_0) := (blk_cell BK415.out 0).trans rfl; have hcz11_1 : w9.cell? ⟨gb415, 1, none⟩ = some (.int .i64 a0_1) := (blk_cell BK415.out 1).trans rfl; have hcz11_2 : w9.cell? ⟨gb415, 2, none⟩ = some (.int .i64 a0_2) := (blk_cell BK415.out 2).trans rfl; have hcz11_3 : w9.cell? ⟨gb415, 3, none⟩ = some (.int .i64 a0_3) := (blk_cell BK415.out 3).trans rfl; have hcz11_4 : w9.cell? ⟨gb415, 4, none⟩ = some (.int .i64 a0_4) := (blk_cell BK415.out 4).trans rfl; have hcz11_5 : w9.cell? ⟨gb415, 5, none⟩ = some (.slice A0_5 l0_5.length c0_5) := (blk_cell BK415.out 5).trans rfl; have hcz11_6 : w9.cell? ⟨gb415, 6, none⟩ = some (.int .i64 a0_6) := (blk_cell BK415.out 6).trans rfl; have hcz11_7 : w9.cell? ⟨gb415, 7, none⟩ = some (.int .i64 a0_7) := (blk_cell BK415.out 7).trans rfl; have hcz11_8 : w9.cell? ⟨gb415, 8, none⟩ = some (.int .i64 a0_8) := (blk_cell BK415.out 8).trans rfl; have hfz11_0 := blk_frozen BK415.out 0; have hfz11_1 := blk_frozen BK415.out 1; have hfz11_2 := blk_frozen BK415.out 2; have hfz11_3 := blk_frozen BK415.out 3; have hfz11_4 := blk_frozen BK415.out 4; have hfz11_5 := blk_frozen BK415.out 5; have hfz11_6 := blk_frozen BK415.out 6; have hfz11_7 := blk_frozen BK415.out 7; have hfz11_8 := blk_frozen BK415.out 8; have hcz12_0 : w9.cell? ⟨gb416, 0, none⟩ = some (.int .i64 a1_0) := (blk_cell BK416.out 0).trans rfl; have hcz12_1 : w9.cell? ⟨gb416, 1, none⟩ = some (.int .i64 a1_1) := (blk_cell BK416.out 1).trans rfl; have hcz12_2 : w9.cell? ⟨gb416, 2, none⟩ = some (.int .i64 a1_2) := (blk_cell BK416.out 2).trans rfl; have hcz12_3 : w9.cell? ⟨gb416, 3, none⟩ = some (.int .i64 a1_3) := (blk_cell BK416.out 3).trans rfl; have hcz12_4 : w9.cell? ⟨gb416, 4, none⟩ = some (.int .i64 a1_4) := (blk_cell BK416.out 4).trans rfl; have hcz12_5 : w9.cell? ⟨gb416, 5, none⟩ = some (.slice A1_5 l1_5.length c1_5) := (blk_cell BK416.out 5).trans rfl; have hcz12_6 : w9.cell? ⟨gb416, 6, none⟩ = some (.int .i64 a1_6) := (blk_cell BK416.out 6).trans rfl; have hcz12_7 : w9.cell? ⟨gb416, 7, none⟩ = some (.int .i64 a1_7) := (blk_cell BK416.out 7).trans rfl; have hcz12_8 : w9.cell? ⟨gb416, 8, none⟩ = some (.int .i64 a1_8) := (blk_cell BK416.out 8).trans rfl; have hfz12_0 := blk_frozen BK416.out 0; have hfz12_1 := blk_frozen BK416.out 1; have hfz12_2 := blk_frozen BK416.out 2; have hfz12_3 := blk_frozen BK416.out 3; have hfz12_4 := blk_frozen BK416.out 4; have hfz12_5 := blk_frozen BK416.out 5; have hfz12_6 := blk_frozen BK416.out 6; have hfz12_7 := blk_frozen BK416.out 7; have hfz12_8 := blk_frozen BK416.out 8) | ((with_reducible refine gate_callee (f := 154) rfl ?_); refine goesL_ (some 9) rfl rfl Try.func154 (by kernel_rfl) rfl #[.agg #[.int .i64 a0_0, .int .i64 a0_1, .int .i64 a0_2], .agg #[.int .i64 a1_0, .int .i64 a1_1, .int .i64 a1_2]] rfl (by (try simp only [List.map_toArray, List.map_cons, List.map_nil]); first | done | rfl | (simp only [List.length_drop, List.length_take]; rfl)) ?_; (with_reducible refine (laws_eqAddress.calls a0_0 a0_1 a0_2 a1_0 a1_1 a1_2 true _ rfl A3.out).mono ?_); rintro e w13 ⟨rfl, hb⟩; refine ⟨_, rfl, ?_⟩; have n0_ := Aside0.mk (blk_below (g := gb415) (o := .cells #[.int .i64 a0_0, .int .i64 a0_1, .int .i64 a0_2, .int .i64 a0_3, .int .i64 a0_4, .slice A0_5 l0_5.length c0_5, .int .i64 a0_6, .int .i64 a0_7, .int .i64 a0_8] 179 (0, 0)) (by (with_reducible repeat (first | refine blk_drewN ?_ _ | refine blk_drew ?_ | refine blk_alloc ?_ _)); exact BK415.out) hb); have n1_ := Aside0.mk (blk_below (g := gb416) (o := .cells #[.int .i64 a1_0, .int .i64 a1_1, .int .i64 a1_2, .int .i64 a1_3, .int .i64 a1_4, .slice A1_5 l1_5.length c1_5, .int .i64 a1_6, .int .i64 a1_7, .int .i64 a1_8] 179 (0, 0)) (by (with_reducible repeat (first | refine blk_drewN ?_ _ | refine blk_drew ?_ | refine blk_alloc ?_ _)); exact BK416.out) hb); have n2_ := Aside0.mk (below_step (by repeat (first | (with_reducible first | exact HB.out | apply below_alloc | apply pw_below_drewN | apply below_drew1 | refine below_set ?_ GE415.out | refine below_set ?_ GE416.out) | exact HB.out)) hb); clear BK415; clear BK416; clear HB; have BK415 := n0_; have BK416 := n1_; have HB := n2_; clear n0_ n1_ n2_; (try clear hb); (try clear hb2); (try clear hk); (try clear hi); have hcz14_0 : w13.cell? ⟨gb415, 0, none⟩ = some (.int .i64 a0_0) := (blk_cell BK415.out 0).trans rfl; have hcz14_1 : w13.cell? ⟨gb415, 1, none⟩ = some (.int .i64 a0_1) := (blk_cell BK415.out 1).trans rfl; have hcz14_2 : w13.cell? ⟨gb415, 2, none⟩ = some (.int .i64 a0_2) := (blk_cell BK415.out 2).trans rfl; have hcz14_3 : w13.cell? ⟨gb415, 3, none⟩ = some (.int .i64 a0_3) := (blk_cell BK415.out 3).trans rfl; have hcz14_4 : w13.cell? ⟨gb415, 4, none⟩ = some (.int .i64 a0_4) := (blk_cell BK415.out 4).trans rfl; have hcz14_5 : w13.cell? ⟨gb415, 5, none⟩ = some (.slice A0_5 l0_5.length c0_5) := (blk_cell BK415.out 5).trans rfl; have hcz14_6 : w13.cell? ⟨gb415, 6, none⟩ = some (.int .i64 a0_6) := (blk_cell BK415.out 6).trans rfl; have hcz14_7 : w13.cell? ⟨gb415, 7, none⟩ = some (.int .i64 a0_7) := (blk_cell BK415.out 7).trans rfl; have hcz14_8 : w13.cell? ⟨gb415, 8, none⟩ = some (.int .i64 a0_8) := (blk_cell BK415.out 8).trans rfl; have hfz14_0 := blk_frozen BK415.out 0; have hfz14_1 := blk_frozen BK415.out 1; have hfz14_2 := blk_frozen BK415.out 2; have hfz14_3 := blk_frozen BK415.out 3; have hfz14_4 := blk_frozen BK415.out 4; have hfz14_5 := blk_frozen BK415.out 5; have hfz14_6 := blk_frozen BK415.out 6; have hfz14_7 := blk_frozen BK415.out 7; have hfz14_8 := blk_frozen BK415.out 8; have hcz15_0 : w13.cell? ⟨gb416, 0, none⟩ = some (.int .i64 a1_0) := (blk_cell BK416.out 0).trans rfl; have hcz15_1 : w13.cell? ⟨gb416, 1, none⟩ = some (.int .i64 a1_1) := (blk_cell BK416.out 1).trans rfl; have hcz15_2 : w13.cell? ⟨gb416, 2, none⟩ = some (.int .i64 a1_2) := (blk_cell BK416.out 2).trans rfl; have hcz15_3 : w13.cell? ⟨gb416, 3, none⟩ = some (.int .i64 a1_3) := (blk_cell BK416.out 3).trans rfl; have hcz15_4 : w13.cell? ⟨gb416, 4, none⟩ = some (.int .i64 a1_4) := (blk_cell BK416.out 4).trans rfl; have hcz15_5 : w13.cell? ⟨gb416, 5, none⟩ = some (.slice A1_5 l1_5.length c1_5) := (blk_cell BK416.out 5).trans rfl; have hcz15_6 : w13.cell? ⟨gb416, 6, none⟩ = some (.int .i64 a1_6) := (blk_cell BK416.out 6).trans rfl; have hcz15_7 : w13.cell? ⟨gb416, 7, none⟩ = some (.int .i64 a1_7) := (blk_cell BK416.out 7).trans rfl; have hcz15_8 : w13.cell? ⟨gb416, 8, none⟩ = some (.int .i64 a1_8) := (blk_cell BK416.out 8).trans rfl; have hfz15_0 := blk_frozen BK416.out 0; have hfz15_1 := blk_frozen BK416.out 1; have hfz15_2 := blk_frozen BK416.out 2; have hfz15_3 := blk_frozen BK416.out 3; have hfz15_4 := blk_frozen BK416.out 4; have hfz15_5 := blk_frozen BK416.out 5; have hfz15_6 := blk_frozen BK416.out 6; have hfz15_7 := blk_frozen BK416.out 7; have hfz15_8 := blk_frozen BK416.out 8) | ((with_reducible refine gate_callee (f := 164) rfl ?_); refine goesL_ (some 20) rfl rfl Try.func164 (by kernel_rfl) rfl #[.agg #[.int .i64 a0_4, .slice A0_5 l0_5.length c0_5, .int .i64 a0_6, .int .i64 a0_7, .int .i64 a0_8], .agg #[.int .i64 a1_4, .slice A1_5 l1_5.length c1_5, .int .i64 a1_6, .int .i64 a1_7, .int .i64 a1_8]] rfl (by (try simp only [List.map_toArray, List.map_cons, List.map_nil]); first | done | rfl | (simp only [List.length_drop, List.length_take]; rfl)) ?_; (with_reducible refine (laws_eqResource.calls k a0_4 _ _ l0_5 a0_6 a0_7 a0_8 a1_4 _ _ l1_5 a1_6 a1_7 a1_8 true _ ?side1 ?side2 ?side3 ?side4 rfl A6.out).mono ?_); (case side1 => repeat (first | exact (Kd.C_below HR0_5.out HB.out) | (with_reducible refine Kd.C_alloc ?_ _) | (with_reducible refine Kd.C_drewN ?_ _) | (with_reducible refine Kd.C_drew ?_))); (case side2 => exact HC0_5.out); (case side3 => repeat (first | exact (Kd.C_below HR1_5.out HB.out) | (with_reducible refine Kd.C_alloc ?_ _) | (with_reducible refine Kd.C_drewN ?_ _) | (with_reducible refine Kd.C_drew ?_))); (case side4 => exact HC1_5.out); rintro e w16 ⟨rfl, hb⟩; refine ⟨_, rfl, ?_⟩; have n0_ := Aside0.mk (blk_below (g := gb415) (o := .cells #[.int .i64 a0_0, .int .i64 a0_1, .int .i64 a0_2, .int .i64 a0_3, .int .i64 a0_4, .slice A0_5 l0_5.length c0_5, .int .i64 a0_6, .int .i64 a0_7, .int .i64 a0_8] 179 (0, 0)) (by (with_reducible repeat (first | refine blk_drewN ?_ _ | refine blk_drew ?_ | refine blk_alloc ?_ _)); exact BK415.out) hb); have n1_ := Aside0.mk (blk_below (g := gb416) (o := .cells #[.int .i64 a1_0, .int .i64 a1_1, .int .i64 a1_2, .int .i64 a1_3, .int .i64 a1_4, .slice A1_5 l1_5.length c1_5, .int .i64 a1_6, .int .i64 a1_7, .int .i64 a1_8] 179 (0, 0)) (by (with_reducible repeat (first | refine blk_drewN ?_ _ | refine blk_drew ?_ | refine blk_alloc ?_ _)); exact BK416.out) hb); have n2_ := Aside0.mk (below_step (by repeat (first | (with_reducible first | exact HB.out | apply below_alloc | apply pw_below_drewN | apply below_drew1 | refine below_set ?_ GE415.out | refine below_set ?_ GE416.out) | exact HB.out)) hb); clear BK415; clear BK416; clear HB; have BK415 := n0_; have BK416 := n1_; have HB := n2_; clear n0_ n1_ n2_; (try clear hb); (try clear hb2); (try clear hk); (try clear hi)))
    go_ret
    exact ⟨by first | rfl | (simp [errW_none, errW_some] <;> rfl) | (simp [*, errW_none, errW_some] <;> rfl), by repeat (first | (with_reducible first | exact HB.out | apply below_alloc | apply pw_below_drewN | apply below_drew1 | refine below_set ?_ GE415.out | refine below_set ?_ GE416.out) | exact HB.out)⟩
   ·replace c7 := Bool.eq_false_iff.mpr c7
    subst c7
    have H1 : (some false) = some r := by rw [if_neg (show ¬ (false = true) by decide)] at H; exact H
    clear H
    have H := H1
    clear H1
    cases (Option.some.inj H).trans hT_
  ·rw [if_neg c5] at H
   have c5b0 : (a0_3 == a1_3) = false := beq_eq_false_iff_ne.mpr c5
   have c5b1 : (a0_3 != a1_3) = true := bne_iff_ne.mpr c5
   cases (Option.some.inj H).trans hT_
 ·replace c4 := Bool.eq_false_iff.mpr c4
  subst c4
  have H1 : (some false) = some r := by rw [if_neg (show ¬ (false = true) by decide)] at H; exact H
  clear H
  have H := H1
  clear H1
  cases (Option.some.inj H).trans hT_
end Go.Proofs.Ytegaambhmpoakaa.MFnExactCouldBe

