-- Written by a program of this session out of the translation's own print. Not trusted: Lean checks it.
import Derived.Test.YtegaambhmpoakaaMFnExactCouldBex0
import Derived.Test.YtegaambhmpoakaaMFnExactCouldBex3
import Derived.Test.YtegaambhmpoakaaMFnExactCouldBex4
import Derived.Test.YtegaambhmpoakaaMFnExactCouldBex5
import Derived.Test.YtegaambhmpoakaaMFnExactCouldBex7
namespace Go.Proofs.Ytegaambhmpoakaa.MFnExactCouldBe
open Go.RowKit Go.Proofs.YtegaambhmpoakaaW.PrintWords Go.Proofs.YtegaambhmpoakaaW.PrintLast Go.Proofs.YtegaambhmpoakaaW.PrintMore
attribute [local go_sem] max2_int min2_int max_two min_two max_three min_three max_four min_four   -- for this text's walks alone
set_option linter.unusedVariables false
set_option linter.unusedSimpArgs false

/-! ### spec_CouldBe: function 59 -/
mutual
def spec_CouldBe.l0 : Nat → List (S179) → List (S93) → List Int → List Int → Int → Option (Bool)
  | 0, _, _, _, _, _ => none
  | k + 1, x0, x1, x7, x9, x10 => if x10 < (x0.length : Int) then (if 0 ≤ x10 then ((spec_l1In.f ((rd_T179 x0 x10).f1) 0 1000).bind fun t285 => (if t285 = true then ((spec_l9Put.f k x9 ((rd_T179 x0 x10).f1)).bind fun t287 => (spec_CouldBe.l0 k x0 x1 x7 t287 (wrap64 (x10 + 1)))) else (spec_CouldBe.l0 k x0 x1 x7 x9 (wrap64 (x10 + 1))))) else (none)) else (spec_CouldBe.l1 k x0 x1 x7 x9 0)
def spec_CouldBe.l1 : Nat → List (S179) → List (S93) → List Int → List Int → Int → Option (Bool)
  | 0, _, _, _, _, _ => none
  | k + 1, x0, x1, x7, x9, x11 => if x11 < (x9.length : Int) then (spec_CouldBe.l2 k x0 x1 x7 x9 x11 true 0) else (some false)
def spec_CouldBe.l2 : Nat → List (S179) → List (S93) → List Int → List Int → Int → Bool → Int → Option (Bool)
  | 0, _, _, _, _, _, _, _ => none
  | k + 1, x0, x1, x7, x9, x11, x12, x13 => if x13 < (x7.length : Int) then (spec_CouldBe.j3 k x0 x1 x7 x9 x11 x12 x13 x12) else (spec_CouldBe.j3 k x0 x1 x7 x9 x11 x12 x13 false)
def spec_CouldBe.j3 : Nat → List (S179) → List (S93) → List Int → List Int → Int → Bool → Int → Bool → Option (Bool)
  | 0, _, _, _, _, _, _, _, _ => none
  | k + 1, x0, x1, x7, x9, x11, x12, x13, x56 => if x56 = true then (if 0 ≤ x13 then (if x13 < (x7.length : Int) then (if 0 ≤ (rd x7 x13) then (if (rd x7 x13) < (x1.length : Int) then (if 0 ≤ x11 then (if x11 < (x9.length : Int) then ((spec_FollowAt.f k x0 ((rd_T93 x1 (rd x7 x13)).f0.f0) ((rd_T93 x1 (rd x7 x13)).f0.f1) ((rd_T93 x1 (rd x7 x13)).f0.f2) (rd x9 x11)).bind fun bt293 => ((spec_EqualResources.f k bt293.1 bt293.2.1 bt293.2.2.1 bt293.2.2.2.1 bt293.2.2.2.2.1 ((rd_T93 x1 (rd x7 x13)).f2.f0) ((rd_T93 x1 (rd x7 x13)).f2.f1) ((rd_T93 x1 (rd x7 x13)).f2.f2.f0) ((rd_T93 x1 (rd x7 x13)).f2.f2.f1) ((rd_T93 x1 (rd x7 x13)).f2.f2.f2)).bind fun t306 => (spec_CouldBe.l2 k x0 x1 x7 x9 x11 t306 (wrap64 (x13 + 1))))) else (none)) else (none)) else (none)) else (none)) else (none)) else (none)) else (if x12 = true then (some true) else (spec_CouldBe.l1 k x0 x1 x7 x9 (wrap64 (x11 + 1))))
end
def spec_CouldBe.f (k : Nat) (l0 : List (S179)) (l1 : List (S93)) (a2 : Int) : Option (Bool) := (spec_l18All.f k l1 a2).bind fun bt277 => (if bt277.2 = true then (spec_CouldBe.l0 k l0 l1 bt277.1 (([0] : List Int)) 0) else (some false))
theorem spec_CouldBe.mono_l : ∀ k, (∀ y0 y1 y2 y3 y4, LeO (spec_CouldBe.l0 k y0 y1 y2 y3 y4) (spec_CouldBe.l0 (k + 1) y0 y1 y2 y3 y4)) ∧ (∀ y0 y1 y2 y3 y4, LeO (spec_CouldBe.l1 k y0 y1 y2 y3 y4) (spec_CouldBe.l1 (k + 1) y0 y1 y2 y3 y4)) ∧ (∀ y0 y1 y2 y3 y4 y5 y6, LeO (spec_CouldBe.l2 k y0 y1 y2 y3 y4 y5 y6) (spec_CouldBe.l2 (k + 1) y0 y1 y2 y3 y4 y5 y6)) ∧ (∀ y0 y1 y2 y3 y4 y5 y6 y7, LeO (spec_CouldBe.j3 k y0 y1 y2 y3 y4 y5 y6 y7) (spec_CouldBe.j3 (k + 1) y0 y1 y2 y3 y4 y5 y6 y7))
  | 0 => ⟨fun _ _ _ _ _ r h => by simp [spec_CouldBe.l0] at h, fun _ _ _ _ _ r h => by simp [spec_CouldBe.l1] at h, fun _ _ _ _ _ _ _ r h => by simp [spec_CouldBe.l2] at h, fun _ _ _ _ _ _ _ _ r h => by simp [spec_CouldBe.j3] at h⟩
  | k + 1 => by
    obtain ⟨ih0, ih1, ih2, ih3⟩ := spec_CouldBe.mono_l k
    refine ⟨?_, ?_, ?_, ?_⟩
    · intro y0 y1 y2 y3 y4
      unfold spec_CouldBe.l0
      repeat' first
      | (with_reducible exact ih0 _ _ _ _ _)
      | (with_reducible exact ih1 _ _ _ _ _)
      | (with_reducible exact ih2 _ _ _ _ _ _ _)
      | (with_reducible exact ih3 _ _ _ _ _ _ _ _)
      | (with_reducible exact spec_EqualResources.mono _ _ _ _ _ _ _ _ _ _ _)
      | (with_reducible exact spec_FollowAt.mono _ _ _ _ _ _)
      | (with_reducible exact spec_l18All.mono _ _ _)
      | (with_reducible exact spec_l9Put.mono _ _ _)
      | (with_reducible exact LeO.refl _)
      | (with_reducible exact LeO.none _)
      | (with_reducible refine LeO.ite ?_ ?_)
      | (with_reducible refine LeO.bind ?_ (fun _ => ?_))
      | exact ih0 _ _ _ _ _
      | exact ih1 _ _ _ _ _
      | exact ih2 _ _ _ _ _ _ _
      | exact ih3 _ _ _ _ _ _ _ _
      | exact spec_EqualResources.mono _ _ _ _ _ _ _ _ _ _ _
      | exact spec_FollowAt.mono _ _ _ _ _ _
      | exact spec_l18All.mono _ _ _
      | exact spec_l9Put.mono _ _ _
      | exact LeO.none _
      | refine LeO.ite ?_ ?_
      | refine LeO.bind ?_ (fun _ => ?_)
    · intro y0 y1 y2 y3 y4
      unfold spec_CouldBe.l1
      repeat' first
      | (with_reducible exact ih0 _ _ _ _ _)
      | (with_reducible exact ih1 _ _ _ _ _)
      | (with_reducible exact ih2 _ _ _ _ _ _ _)
      | (with_reducible exact ih3 _ _ _ _ _ _ _ _)
      | (with_reducible exact spec_EqualResources.mono _ _ _ _ _ _ _ _ _ _ _)
      | (with_reducible exact spec_FollowAt.mono _ _ _ _ _ _)
      | (with_reducible exact spec_l18All.mono _ _ _)
      | (with_reducible exact spec_l9Put.mono _ _ _)
      | (with_reducible exact LeO.refl _)
      | (with_reducible exact LeO.none _)
      | (with_reducible refine LeO.ite ?_ ?_)
      | (with_reducible refine LeO.bind ?_ (fun _ => ?_))
      | exact ih0 _ _ _ _ _
      | exact ih1 _ _ _ _ _
      | exact ih2 _ _ _ _ _ _ _
      | exact ih3 _ _ _ _ _ _ _ _
      | exact spec_EqualResources.mono _ _ _ _ _ _ _ _ _ _ _
      | exact spec_FollowAt.mono _ _ _ _ _ _
      | exact spec_l18All.mono _ _ _
      | exact spec_l9Put.mono _ _ _
      | exact LeO.none _
      | refine LeO.ite ?_ ?_
      | refine LeO.bind ?_ (fun _ => ?_)
    · intro y0 y1 y2 y3 y4 y5 y6
      unfold spec_CouldBe.l2
      repeat' first
      | (with_reducible exact ih0 _ _ _ _ _)
      | (with_reducible exact ih1 _ _ _ _ _)
      | (with_reducible exact ih2 _ _ _ _ _ _ _)
      | (with_reducible exact ih3 _ _ _ _ _ _ _ _)
      | (with_reducible exact spec_EqualResources.mono _ _ _ _ _ _ _ _ _ _ _)
      | (with_reducible exact spec_FollowAt.mono _ _ _ _ _ _)
      | (with_reducible exact spec_l18All.mono _ _ _)
      | (with_reducible exact spec_l9Put.mono _ _ _)
      | (with_reducible exact LeO.refl _)
      | (with_reducible exact LeO.none _)
      | (with_reducible refine LeO.ite ?_ ?_)
      | (with_reducible refine LeO.bind ?_ (fun _ => ?_))
      | exact ih0 _ _ _ _ _
      | exact ih1 _ _ _ _ _
      | exact ih2 _ _ _ _ _ _ _
      | exact ih3 _ _ _ _ _ _ _ _
      | exact spec_EqualResources.mono _ _ _ _ _ _ _ _ _ _ _
      | exact spec_FollowAt.mono _ _ _ _ _ _
      | exact spec_l18All.mono _ _ _
      | exact spec_l9Put.mono _ _ _
      | exact LeO.none _
      | refine LeO.ite ?_ ?_
      | refine LeO.bind ?_ (fun _ => ?_)
    · intro y0 y1 y2 y3 y4 y5 y6 y7
      unfold spec_CouldBe.j3
      repeat' first
      | (with_reducible exact ih0 _ _ _ _ _)
      | (with_reducible exact ih1 _ _ _ _ _)
      | (with_reducible exact ih2 _ _ _ _ _ _ _)
      | (with_reducible exact ih3 _ _ _ _ _ _ _ _)
      | (with_reducible exact spec_EqualResources.mono _ _ _ _ _ _ _ _ _ _ _)
      | (with_reducible exact spec_FollowAt.mono _ _ _ _ _ _)
      | (with_reducible exact spec_l18All.mono _ _ _)
      | (with_reducible exact spec_l9Put.mono _ _ _)
      | (with_reducible exact LeO.refl _)
      | (with_reducible exact LeO.none _)
      | (with_reducible refine LeO.ite ?_ ?_)
      | (with_reducible refine LeO.bind ?_ (fun _ => ?_))
      | exact ih0 _ _ _ _ _
      | exact ih1 _ _ _ _ _
      | exact ih2 _ _ _ _ _ _ _
      | exact ih3 _ _ _ _ _ _ _ _
      | exact spec_EqualResources.mono _ _ _ _ _ _ _ _ _ _ _
      | exact spec_FollowAt.mono _ _ _ _ _ _
      | exact spec_l18All.mono _ _ _
      | exact spec_l9Put.mono _ _ _
      | exact LeO.none _
      | refine LeO.ite ?_ ?_
      | refine LeO.bind ?_ (fun _ => ?_)
theorem spec_CouldBe.mono : ∀ a0 a1 a2 k, LeO (spec_CouldBe.f k a0 a1 a2) (spec_CouldBe.f (k + 1) a0 a1 a2) := by
  intro a0 a1 a2 k
  obtain ⟨ih0, ih1, ih2, ih3⟩ := spec_CouldBe.mono_l k
  unfold spec_CouldBe.f
  repeat' first
      | (with_reducible exact ih0 _ _ _ _ _)
      | (with_reducible exact ih1 _ _ _ _ _)
      | (with_reducible exact ih2 _ _ _ _ _ _ _)
      | (with_reducible exact ih3 _ _ _ _ _ _ _ _)
      | (with_reducible exact spec_EqualResources.mono _ _ _ _ _ _ _ _ _ _ _)
      | (with_reducible exact spec_FollowAt.mono _ _ _ _ _ _)
      | (with_reducible exact spec_l18All.mono _ _ _)
      | (with_reducible exact spec_l9Put.mono _ _ _)
      | (with_reducible exact LeO.refl _)
      | (with_reducible exact LeO.none _)
      | (with_reducible refine LeO.ite ?_ ?_)
      | (with_reducible refine LeO.bind ?_ (fun _ => ?_))
      | exact ih0 _ _ _ _ _
      | exact ih1 _ _ _ _ _
      | exact ih2 _ _ _ _ _ _ _
      | exact ih3 _ _ _ _ _ _ _ _
      | exact spec_EqualResources.mono _ _ _ _ _ _ _ _ _ _ _
      | exact spec_FollowAt.mono _ _ _ _ _ _
      | exact spec_l18All.mono _ _ _
      | exact spec_l9Put.mono _ _ _
      | exact LeO.none _
      | refine LeO.ite ?_ ?_
      | refine LeO.bind ?_ (fun _ => ?_)
def spec_CouldBe.T17 : Bool × List (List Nat × List Nat) := (true, [([], []), ([], []), ([], []), ([], []), ([2, 3], [2, 3]), ([4], [4]), ([1, 5], [1, 5]), ([6], [6]), ([7], [7]), ([], []), ([], []), ([9, 10], [9, 10]), ([11], [11]), ([0, 8, 12], [0, 8, 12]), ([13], [13]), ([14], [14]), ([14], [14]), ([], []), ([17, 15, 13, 0, 1, 2, 3, 4, 5, 6, 7, 8, 9, 10, 11, 12, 13, 14, 15, 17], [15, 17]), ([16, 18, 0, 1, 2, 3, 4, 5, 6, 7, 8, 9, 10, 11, 12, 13, 14, 15, 16, 17, 18], [16])])
def spec_CouldBe.B17 : List Nat := [0, 0, 0, 0, 12, 28, 62, 126, 254, 0, 0, 1536, 3584, 8191, 16383, 32767, 32767, 0, 196607, 524287]
theorem spec_CouldBe.tab17 : rtab .any (opsOf Try.f59 17) = spec_CouldBe.T17 := by kernel_rfl
theorem spec_CouldBe.bits17 : waitsOk spec_CouldBe.T17.2 spec_CouldBe.B17 = true := by kernel_rfl
def spec_CouldBe.T18 : Bool × List (List Nat × List Nat) := (true, [([], []), ([], []), ([], []), ([], []), ([2, 3], [2, 3]), ([4], [4]), ([1, 5], [1, 5]), ([6], [6]), ([7], [7]), ([0, 8], [0, 8]), ([9, 9, 0, 1, 2, 3, 4, 5, 6, 7, 8, 9], [9])])
def spec_CouldBe.B18 : List Nat := [0, 0, 0, 0, 12, 28, 62, 126, 254, 511, 1023]
theorem spec_CouldBe.tab18 : rtab .any (opsOf Try.f59 18) = spec_CouldBe.T18 := by kernel_rfl
theorem spec_CouldBe.bits18 : waitsOk spec_CouldBe.T18.2 spec_CouldBe.B18 = true := by kernel_rfl
set_option maxHeartbeats 8000000 in
set_option maxRecDepth 100000 in
theorem spec_CouldBe.calls (k : Nat) (A0 : Option Addr) (c0 : Nat) (l0 : List (S179)) (A1 : Option Addr) (c1 : Nat) (l1 : List (S93)) (a2 : Int) (r : Bool) (w : World) (hr0 : Kd.C k179 w A0 l0.length l0) (hc0 : l0.length ≤ c0) (hr1 : Kd.C k93 w A1 l1.length l1) (hc1 : l1.length ≤ c1) (h : spec_CouldBe.f k l0 l1 a2 = some r) :
  Calls Try.prog 59 #[.slice A0 l0.length c0, .slice A1 l1.length c1, .int .i64 a2] w fun e w' => e = .returned (.bool r) ∧ Below w.heap.size w w' := by
 have hu31 := Try.underlying31
 have hu51 := Try.underlying51
 have HR0 := Aside0.mk hr0
 have HC0 := Aside0.mk hc0
 clear hr0 hc0
 have HR1 := Aside0.mk hr1
 have HC1 := Aside0.mk hc1
 clear hr1 hc1
 have HB := Aside0.mk (Below.refl w.heap.size w)
 have H : ((spec_l18All.f k l1 a2).bind fun bt277 => (if bt277.2 = true then (spec_CouldBe.l0 k l0 l1 bt277.1 (([0] : List Int)) 0) else (some false))) = some r := h
 clear h
 replace H := Option.bind_eq_some_iff.mp H
 obtain ⟨⟨t277, t278⟩, A40, H⟩ := H
 replace H : (if t278 = true then (spec_CouldBe.l0 k l0 l1 t277 (([0] : List Int)) 0) else (some false)) = some r := H
 have A4 := Aside0.mk A40
 clear A40
 by_cases c5 : t278 = true
 ·subst c5
  have H1 : (spec_CouldBe.l0 k l0 l1 t277 (([0] : List Int)) 0) = some r := by rw [if_pos rfl] at H; exact H
  clear H
  have H := H1
  clear H1
  obtain ⟨y281, hy281⟩ : ∃ y_ : List Int, y_ = (([0] : List Int)) := ⟨_, rfl⟩
  replace H : (spec_CouldBe.l0 k l0 l1 t277 y281 0) = some r := by first | (rw [hy281]; with_reducible exact H) | (have H2_ := (Option.bind_some _ _).symm.trans H; rw [hy281]; with_reducible exact H2_) | (have H2_ := (Option.bind_some _ _).symm.trans H; with_reducible exact H2_) | with_reducible exact H | (rw [hy281]; exact H) | exact H
  have Ny281 := Aside0.mk hy281
  clear hy281
  have H' := Aside0.mk H
  clear H
  go_enter Try.func59, Try.ntmps59
  go_wp2_with (first | ((with_reducible refine gate_callee (f := 138) rfl ?_); refine goesL_ (some 19) rfl rfl Try.func138 (by kernel_rfl) rfl #[.slice A1 l1.length c1, .int .i64 a2] rfl (by (try simp only [List.map_toArray, List.map_cons, List.map_nil]); first | done | rfl | (simp only [List.length_drop, List.length_take]; rfl)) ?_; (with_reducible refine (spec_l18All.calls k _ _ l1 a2 t277 true _ ?side1 ?side2 A4.out).mono ?_); (case side1 => repeat (first | exact HR1.out | (with_reducible refine Kd.C_alloc ?_ _) | (with_reducible refine Kd.C_drewN ?_ _) | (with_reducible refine Kd.C_drew ?_))); (case side2 => exact HC1.out); rintro e w6 ⟨v279, rfl, ho0, hb⟩; refine ⟨_, rfl, ?_⟩; have n0_ := Aside0.mk (Kd.R_lower ho0 (below_size (by repeat (first | (with_reducible first | exact HB.out | apply below_alloc | apply pw_below_drewN | apply below_drew1) | exact HB.out)))); have n1_ := Aside0.mk (below_step (by repeat (first | (with_reducible first | exact HB.out | apply below_alloc | apply pw_below_drewN | apply below_drew1) | exact HB.out)) hb); clear HB; have HO280 := n0_; have HB := n1_; clear n0_ n1_; (try clear hb); (try clear hb2); (try clear hk); (try clear hi); (try clear ho0)) | ((with_reducible refine gate_dst (N := 24) rfl ?_); refine Kd.R_lit (Kd.int .i64) _ 3 ?hg (N := 24) ?hd (xs := ([0] : List Int)) (inner := [.int .i64 0]) (ok := fun _ => True) (okp := fun _ => True) ?hr ?hp (fun _ hk => hk) trivial (Below.refl _ _) (Nat.le_refl _) (by simp) ?_; (case hd => rfl); (case hg => rfl); (case hr => first | (go_simp; done) | (go_simp; rfl)); (case hp => exact (Reps.one (show Kd.M (Kd.int .i64) _ _ _ 0 [.int .i64 0] from rfl) (Reps.none _ _))); intro v282 w7 ho8 hb hg_ hnew_; clear hg_ hnew_; (first | rw [← Ny281.out] at ho8 | (simp only [Int.reduceToNat] at ho8; rw [← Ny281.out] at ho8)); have n0_ := Aside0.mk (Kd.R_elder' (by (with_reducible repeat (first | apply Kd.R_alloc | apply Kd.R_drewN | apply Kd.R_drew)); exact HO280.out) (Kd.R_base ho8) hb); have n1_ := Aside0.mk (Kd.R_lower (Kd.R_new' ho8 (Kd.R_lt (by (with_reducible repeat (first | apply Kd.R_alloc | apply Kd.R_drewN | apply Kd.R_drew)); exact HO280.out))) (below_size (by repeat (first | (with_reducible first | exact HB.out | apply below_alloc | apply pw_below_drewN | apply below_drew1) | exact HB.out)))); have n2_ := Aside0.mk (below_step (by repeat (first | (with_reducible first | exact HB.out | apply below_alloc | apply pw_below_drewN | apply below_drew1) | exact HB.out)) hb); clear HO280; clear HB; have HO280 := n0_; have HO283 := n1_; have HB := n2_; clear n0_ n1_ n2_; clear hb ho8))
  go_loopg [9, 10] k (fun kq v9 v10 w' => ∃ (x9_1 : List Int) (x10_1 : Int), v10 = .int .i64 x10_1 ∧ Aside0 (spec_CouldBe.l0 kq l0 l1 t277 x9_1 x10_1 = some r) ∧ Aside0 (kq ≤ k) ∧ Aside0 (Kd.R (Kd.int .i64) 3 w' w.heap.size (fun k_ => some k_ ≠ (v9 : Value).ownBlock) v279 t277) ∧ Aside0 (Kd.R (Kd.int .i64) 3 w' w.heap.size (fun k_ => some k_ ≠ (v279 : Value).ownBlock) v9 x9_1) ∧ Aside0 (Below w.heap.size w w'))
  case atStart => exact ⟨(y281), (0), (by first | rfl | (simp; done) | (simp [*]; done)), H', ⟨Nat.le_refl _⟩, ⟨by (with_reducible repeat (first | apply Kd.R_alloc | apply Kd.R_drewN | apply Kd.R_drew)); exact Kd.R_mono HO280.out (fun _ hk => by first | exact hk.2 | simp_all)⟩, ⟨by (with_reducible repeat (first | apply Kd.R_alloc | apply Kd.R_drewN | apply Kd.R_drew)); exact Kd.R_mono HO283.out (fun _ hk => by first | exact hk.2 | simp_all)⟩, ⟨by repeat (first | (with_reducible first | exact HB.out | apply below_alloc | apply pw_below_drewN | apply below_drew1) | exact HB.out)⟩⟩
  case round =>
   clear H'
   try clear c1
   try clear p2
   try clear c5
   obtain ⟨x9_1, x10_1, rfl, HA, HK1, HO_7, HO_9, HB⟩ := hrel
   cases gk with
   | zero => exact absurd HA.out (by simp [spec_CouldBe.l0])
   | succ k1 =>
    have H := HA.out
    clear HA
    simp only [spec_CouldBe.l0] at H
    by_cases c9 : x10_1 < (l0.length : Int)
    ·rw [if_pos c9] at H
     have c9b0 : decide (x10_1 < (l0.length : Int)) = true := decide_eq_true c9
     clear c9
     by_cases c10 : 0 ≤ x10_1
     ·rw [if_pos c10] at H
      have c10b0 : decide (0 ≤ x10_1) = true := decide_eq_true c10
      clear c10
      replace H := Option.bind_eq_some_iff.mp H
      obtain ⟨t285, A110, H⟩ := H
      replace H : (if t285 = true then ((spec_l9Put.f k1 x9_1 ((rd_T179 l0 x10_1).f1)).bind fun t287 => (spec_CouldBe.l0 k1 l0 l1 t277 t287 (wrap64 (x10_1 + 1)))) else (spec_CouldBe.l0 k1 l0 l1 t277 x9_1 (wrap64 (x10_1 + 1)))) = some r := H
      have A11 := Aside0.mk A110
      clear A110
      by_cases c12 : t285 = true
      ·subst c12
       have H1 : ((spec_l9Put.f k1 x9_1 ((rd_T179 l0 x10_1).f1)).bind fun t287 => (spec_CouldBe.l0 k1 l0 l1 t277 t287 (wrap64 (x10_1 + 1)))) = some r := by rw [if_pos rfl] at H; exact H
       clear H
       have H := H1
       clear H1
       replace H := Option.bind_eq_some_iff.mp H
       obtain ⟨t287, A130, H⟩ := H
       replace H : (spec_CouldBe.l0 k1 l0 l1 t277 t287 (wrap64 (x10_1 + 1))) = some r := H
       have A13 := Aside0.mk A130
       clear A130
       have H' := Aside0.mk H
       clear H
       have p284 : 0 ≤ (x10_1 : Int) := of_decide_eq_true (by first | (with_reducible assumption) | assumption)
       have q284 : x10_1 < (l0.length : Int) := of_decide_eq_true (by first | (with_reducible assumption) | assumption)
       obtain ⟨ad284, A284_5, c284_5, e284, hx284_0, hx284_1, hx284_2, hx284_3, hx284_4, hx284_5, hx284_6, hx284_7, hx284_8, hl284_5, hi284_5⟩ := at_T179 HR0.out x10_1 p284 q284
       cases e284
       replace hx284_0 := (HB.out.cell (World.block_lt_of_cell? w _ hx284_0)).trans hx284_0
       replace hx284_1 := (HB.out.cell (World.block_lt_of_cell? w _ hx284_1)).trans hx284_1
       replace hx284_2 := (HB.out.cell (World.block_lt_of_cell? w _ hx284_2)).trans hx284_2
       replace hx284_3 := (HB.out.cell (World.block_lt_of_cell? w _ hx284_3)).trans hx284_3
       replace hx284_4 := (HB.out.cell (World.block_lt_of_cell? w _ hx284_4)).trans hx284_4
       replace hx284_5 := (HB.out.cell (World.block_lt_of_cell? w _ hx284_5)).trans hx284_5
       replace hx284_6 := (HB.out.cell (World.block_lt_of_cell? w _ hx284_6)).trans hx284_6
       replace hx284_7 := (HB.out.cell (World.block_lt_of_cell? w _ hx284_7)).trans hx284_7
       replace hx284_8 := (HB.out.cell (World.block_lt_of_cell? w _ hx284_8)).trans hx284_8
       have HR284_5 := Aside0.mk hi284_5
       have HC284_5 := Aside0.mk hl284_5
       clear hi284_5 hl284_5
       replace p284 := eq_true p284
       replace q284 := eq_true q284
       go_wp2_with (first | ((with_reducible refine gate_callee (f := 84) rfl ?_); refine goesL_ (some 36) rfl rfl Try.func84 (by kernel_rfl) rfl #[.int .i64 ((rd_T179 l0 x10_1).f1), .int .i64 0, .int .i64 1000] rfl (by (try simp only [List.map_toArray, List.map_cons, List.map_nil]); first | done | rfl | (simp only [List.length_drop, List.length_take]; rfl)) ?_; (with_reducible refine (spec_l1In.calls ((rd_T179 l0 x10_1).f1) 0 1000 true _ A11.out).mono ?_); rintro e w' ⟨rfl, ⟨nd, rfl⟩⟩; refine ⟨_, rfl, ?_⟩; have p286 : 0 ≤ (x10_1 : Int) := of_decide_eq_true (by first | (with_reducible assumption) | assumption); have q286 : x10_1 < (l0.length : Int) := of_decide_eq_true (by first | (with_reducible assumption) | assumption); obtain ⟨ad286, A286_5, c286_5, e286, hx286_0, hx286_1, hx286_2, hx286_3, hx286_4, hx286_5, hx286_6, hx286_7, hx286_8, hl286_5, hi286_5⟩ := at_T179 HR0.out x10_1 p286 q286; obtain rfl : ad284 = ad286 := (by injection e286); replace hx286_0 := (HB.out.cell (World.block_lt_of_cell? w _ hx286_0)).trans hx286_0; replace hx286_1 := (HB.out.cell (World.block_lt_of_cell? w _ hx286_1)).trans hx286_1; replace hx286_2 := (HB.out.cell (World.block_lt_of_cell? w _ hx286_2)).trans hx286_2; replace hx286_3 := (HB.out.cell (World.block_lt_of_cell? w _ hx286_3)).trans hx286_3; replace hx286_4 := (HB.out.cell (World.block_lt_of_cell? w _ hx286_4)).trans hx286_4; replace hx286_5 := (HB.out.cell (World.block_lt_of_cell? w _ hx286_5)).trans hx286_5; replace hx286_6 := (HB.out.cell (World.block_lt_of_cell? w _ hx286_6)).trans hx286_6; replace hx286_7 := (HB.out.cell (World.block_lt_of_cell? w _ hx286_7)).trans hx286_7; replace hx286_8 := (HB.out.cell (World.block_lt_of_cell? w _ hx286_8)).trans hx286_8; have HR286_5 := Aside0.mk hi286_5; have HC286_5 := Aside0.mk hl286_5; clear hi286_5 hl286_5; replace p286 := eq_true p286; replace q286 := eq_true q286; have ea_ := Option.some.inj (hx284_5.symm.trans hx286_5); injection ea_ with ea_ en_ ec_; subst ea_; subst ec_; clear en_; obtain ⟨Ao14, co14, eo14⟩ := Kd.R_slice HO_9.out; subst eo14) | ((with_reducible refine gate_callee (f := 139) rfl ?_); refine goesL_ (some 43) rfl rfl Try.func139 (by kernel_rfl) rfl #[.slice Ao14 x9_1.length co14, .int .i64 ((rd_T179 l0 x10_1).f1)] rfl (by (try simp only [List.map_toArray, List.map_cons, List.map_nil]); first | done | rfl | (simp only [List.length_drop, List.length_take]; rfl)) ?_; (with_reducible refine (spec_l9Put.calls k1 _ _ x9_1 ((rd_T179 l0 x10_1).f1) t287 _ ?side1 ?side2 A13.out).mono ?_); (case side1 => repeat (first | exact (Kd.R_reads' HO_9.out).2.2 | (with_reducible refine Kd.C_alloc ?_ _) | (with_reducible refine Kd.C_drewN ?_ _) | (with_reducible refine Kd.C_drew ?_))); (case side2 => exact (Kd.R_reads' HO_9.out).2.1); rintro e w15 ⟨v288, rfl, ho0, hb⟩; refine ⟨_, rfl, ?_⟩; have n0_ := Aside0.mk (Kd.R_elder' (by (with_reducible repeat (first | apply Kd.R_alloc | apply Kd.R_drewN | apply Kd.R_drew)); exact HO_7.out) (Kd.R_base ho0) hb); have n1_ := Aside0.mk (Kd.R_elder' (by (with_reducible repeat (first | apply Kd.R_alloc | apply Kd.R_drewN | apply Kd.R_drew)); exact HO_9.out) (Kd.R_base ho0) hb); have n2_ := Aside0.mk (Kd.R_lower (Kd.R_new' (Kd.R_new' ho0 (Kd.R_lt (by (with_reducible repeat (first | apply Kd.R_alloc | apply Kd.R_drewN | apply Kd.R_drew)); exact HO_7.out))) (Kd.R_lt (by (with_reducible repeat (first | apply Kd.R_alloc | apply Kd.R_drewN | apply Kd.R_drew)); exact HO_9.out))) (below_size (by repeat (first | (with_reducible first | exact HB.out | apply below_alloc | apply pw_below_drewN | apply below_drew1) | exact HB.out)))); have n3_ := Aside0.mk (below_step (by repeat (first | (with_reducible first | exact HB.out | apply below_alloc | apply pw_below_drewN | apply below_drew1) | exact HB.out)) hb); clear HO_7; clear HO_9; clear HB; have HO_7 := n0_; have HO_9 := n1_; have HO289 := n2_; have HB := n3_; clear n0_ n1_ n2_ n3_; (try clear hb); (try clear hb2); (try clear hk); (try clear hi); (try clear ho0)))
       go_roundg k1
       case measure => have := HK1.out; omega
       case rel => exact ⟨(t287), (wrap64 (x10_1 + 1)), (by first | rfl | (simp; done) | (simp [*]; done)), H', ⟨by have := HK1.out; omega⟩, ⟨by (with_reducible repeat (first | apply Kd.R_alloc | apply Kd.R_drewN | apply Kd.R_drew)); exact Kd.R_mono HO_7.out (fun _ hk => by first | exact hk.2 | simp_all)⟩, ⟨by (with_reducible repeat (first | apply Kd.R_alloc | apply Kd.R_drewN | apply Kd.R_drew)); exact Kd.R_mono HO289.out (fun _ hk => by first | exact hk.1.2 | simp_all)⟩, ⟨by repeat (first | (with_reducible first | exact HB.out | apply below_alloc | apply pw_below_drewN | apply below_drew1) | exact HB.out)⟩⟩
      ·replace c12 := Bool.eq_false_iff.mpr c12
       subst c12
       have H1 : (spec_CouldBe.l0 k1 l0 l1 t277 x9_1 (wrap64 (x10_1 + 1))) = some r := by rw [if_neg (show ¬ (false = true) by decide)] at H; exact H
       clear H
       have H := H1
       clear H1
       have H' := Aside0.mk H
       clear H
       have p284 : 0 ≤ (x10_1 : Int) := of_decide_eq_true (by first | (with_reducible assumption) | assumption)
       have q284 : x10_1 < (l0.length : Int) := of_decide_eq_true (by first | (with_reducible assumption) | assumption)
       obtain ⟨ad284, A284_5, c284_5, e284, hx284_0, hx284_1, hx284_2, hx284_3, hx284_4, hx284_5, hx284_6, hx284_7, hx284_8, hl284_5, hi284_5⟩ := at_T179 HR0.out x10_1 p284 q284
       cases e284
       replace hx284_0 := (HB.out.cell (World.block_lt_of_cell? w _ hx284_0)).trans hx284_0
       replace hx284_1 := (HB.out.cell (World.block_lt_of_cell? w _ hx284_1)).trans hx284_1
       replace hx284_2 := (HB.out.cell (World.block_lt_of_cell? w _ hx284_2)).trans hx284_2
       replace hx284_3 := (HB.out.cell (World.block_lt_of_cell? w _ hx284_3)).trans hx284_3
       replace hx284_4 := (HB.out.cell (World.block_lt_of_cell? w _ hx284_4)).trans hx284_4
       replace hx284_5 := (HB.out.cell (World.block_lt_of_cell? w _ hx284_5)).trans hx284_5
       replace hx284_6 := (HB.out.cell (World.block_lt_of_cell? w _ hx284_6)).trans hx284_6
       replace hx284_7 := (HB.out.cell (World.block_lt_of_cell? w _ hx284_7)).trans hx284_7
       replace hx284_8 := (HB.out.cell (World.block_lt_of_cell? w _ hx284_8)).trans hx284_8
       have HR284_5 := Aside0.mk hi284_5
       have HC284_5 := Aside0.mk hl284_5
       clear hi284_5 hl284_5
       replace p284 := eq_true p284
       replace q284 := eq_true q284
       go_wp2_with (first | ((with_reducible refine gate_callee (f := 84) rfl ?_); refine goesL_ (some 36) rfl rfl Try.func84 (by kernel_rfl) rfl #[.int .i64 ((rd_T179 l0 x10_1).f1), .int .i64 0, .int .i64 1000] rfl (by (try simp only [List.map_toArray, List.map_cons, List.map_nil]); first | done | rfl | (simp only [List.length_drop, List.length_take]; rfl)) ?_; (with_reducible refine (spec_l1In.calls ((rd_T179 l0 x10_1).f1) 0 1000 false _ A11.out).mono ?_); rintro e w' ⟨rfl, ⟨nd, rfl⟩⟩; refine ⟨_, rfl, ?_⟩))
       go_roundg k1
       case measure => have := HK1.out; omega
       case rel => exact ⟨(x9_1), (wrap64 (x10_1 + 1)), (by first | rfl | (simp; done) | (simp [*]; done)), H', ⟨by have := HK1.out; omega⟩, ⟨by (with_reducible repeat (first | apply Kd.R_alloc | apply Kd.R_drewN | apply Kd.R_drew)); exact HO_7.out⟩, ⟨by (with_reducible repeat (first | apply Kd.R_alloc | apply Kd.R_drewN | apply Kd.R_drew)); exact HO_9.out⟩, ⟨by repeat (first | (with_reducible first | exact HB.out | apply below_alloc | apply pw_below_drewN | apply below_drew1) | exact HB.out)⟩⟩
     ·rw [if_neg c10] at H
      exact absurd H (by simp)
    ·rw [if_neg c9] at H
     have c9b0 : decide (x10_1 < (l0.length : Int)) = false := decide_eq_false c9
     clear c9
     have H' := Aside0.mk H
     clear H
     go_wp2
     go_loopg [11] k1 (fun kq v11 w' => ∃ (x11_2 : Int), v11 = .int .i64 x11_2 ∧ Aside0 (spec_CouldBe.l1 kq l0 l1 t277 x9_1 x11_2 = some r) ∧ Aside0 (kq ≤ k1) ∧ Aside0 (Kd.R (Kd.int .i64) 3 w' w.heap.size (fun k_ => some k_ ≠ (u9 : Value).ownBlock) v279 t277) ∧ Aside0 (Kd.R (Kd.int .i64) 3 w' w.heap.size (fun k_ => some k_ ≠ (v279 : Value).ownBlock) u9 x9_1) ∧ Aside0 (Below w.heap.size w w'))
     case atStart => exact ⟨(0), (by first | rfl | (simp; done) | (simp [*]; done)), H', ⟨Nat.le_refl _⟩, ⟨by (with_reducible repeat (first | apply Kd.R_alloc | apply Kd.R_drewN | apply Kd.R_drew)); exact HO_7.out⟩, ⟨by (with_reducible repeat (first | apply Kd.R_alloc | apply Kd.R_drewN | apply Kd.R_drew)); exact HO_9.out⟩, ⟨by repeat (first | (with_reducible first | exact HB.out | apply below_alloc | apply pw_below_drewN | apply below_drew1) | exact HB.out)⟩⟩
     case round =>
      clear H'
      try clear c1
      try clear c2
      try clear p2
      try clear q2
      try clear hx2
      try clear c5
      try clear p6
      try clear c8
      try clear c9
      try clear c9b0
      try clear c10
      try clear c10b0
      try clear c12
      try clear c13
      try clear hx284_0
      try clear hx284_1
      try clear hx284_2
      try clear hx284_3
      try clear hx284_4
      try clear hx284_5
      try clear hx284_6
      try clear hx284_7
      try clear hx284_8
      try clear hx286_0
      try clear hx286_1
      try clear hx286_2
      try clear hx286_3
      try clear hx286_4
      try clear hx286_5
      try clear hx286_6
      try clear hx286_7
      try clear hx286_8
      try clear p2
      try clear p284
      try clear p286
      try clear q284
      try clear q286
      obtain ⟨x11_2, rfl, HA, HK2, HO_7, HO_9, HB⟩ := hrel
      cases gk with
      | zero => exact absurd HA.out (by simp [spec_CouldBe.l1])
      | succ k2 =>
       have H := HA.out
       clear HA
       simp only [spec_CouldBe.l1] at H
       by_cases c16 : x11_2 < (x9_1.length : Int)
       ·rw [if_pos c16] at H
        have c16b0 : decide (x11_2 < (x9_1.length : Int)) = true := decide_eq_true c16
        clear c16
        have H' := Aside0.mk H
        clear H
        obtain ⟨Ao17, co17, eo17⟩ := Kd.R_slice HO_9.out
        subst eo17
        go_wp2
        go_loopg [12, 13] k2 (fun kq v12 v13 w' => ∃ (x12_3 : Bool) (x13_3 : Int), v12 = .bool x12_3 ∧ v13 = .int .i64 x13_3 ∧ Aside0 (spec_CouldBe.l2 kq l0 l1 t277 x9_1 x11_2 x12_3 x13_3 = some r) ∧ Aside0 (kq ≤ k2) ∧ Aside0 (Kd.R (Kd.int .i64) 3 w' w.heap.size (fun k_ => some k_ ≠ ((.slice Ao17 x9_1.length co17) : Value).ownBlock) v279 t277) ∧ Aside0 (Kd.R (Kd.int .i64) 3 w' w.heap.size (fun k_ => some k_ ≠ (v279 : Value).ownBlock) (.slice Ao17 x9_1.length co17) x9_1) ∧ Aside0 (Below w.heap.size w w'))
        case atStart => exact ⟨(true), (0), (by first | rfl | (simp; done) | (simp [*]; done)), (by first | rfl | (simp; done) | (simp [*]; done)), H', ⟨Nat.le_refl _⟩, ⟨by (with_reducible repeat (first | apply Kd.R_alloc | apply Kd.R_drewN | apply Kd.R_drew)); exact HO_7.out⟩, ⟨by (with_reducible repeat (first | apply Kd.R_alloc | apply Kd.R_drewN | apply Kd.R_drew)); exact HO_9.out⟩, ⟨by repeat (first | (with_reducible first | exact HB.out | apply below_alloc | apply pw_below_drewN | apply below_drew1) | exact HB.out)⟩⟩
        case round =>
         clear H'
         try clear c1
         try clear c2
         try clear p2
         try clear q2
         try clear hx2
         try clear c5
         try clear p6
         try clear c8
         try clear c9
         try clear c9b0
         try clear c10
         try clear c10b0
         try clear c12
         try clear c13
         try clear c16
         try clear c16b0
         try clear hx284_0
         try clear hx284_1
         try clear hx284_2
         try clear hx284_3
         try clear hx284_4
         try clear hx284_5
         try clear hx284_6
         try clear hx284_7
         try clear hx284_8
         try clear hx286_0
         try clear hx286_1
         try clear hx286_2
         try clear hx286_3
         try clear hx286_4
         try clear hx286_5
         try clear hx286_6
         try clear hx286_7
         try clear hx286_8
         try clear p2
         try clear p284
         try clear p286
         try clear p6
         try clear q2
         try clear q284
         try clear q286
         obtain ⟨x12_3, x13_3, rfl, rfl, HA, HK3, HO_7, HO_9, HB⟩ := hrel
         cases gk with
         | zero => exact absurd HA.out (by simp [spec_CouldBe.l2])
         | succ k3 =>
          have H := HA.out
          clear HA
          simp only [spec_CouldBe.l2] at H
          have HC18 := Aside0.mk H
          clear H
          go_upto_region 15 with (fail)
          go_cut [56] (fun v56 wc => ∃ (kq : Nat) (x56_17 : Bool), v56 = .bool x56_17 ∧ Aside0 (spec_CouldBe.j3 kq l0 l1 t277 x9_1 x11_2 x12_3 x13_3 x56_17 = some r) ∧ Aside0 (kq ≤ k3) ∧ Aside0 (Kd.R (Kd.int .i64) 3 wc w.heap.size (fun k_ => some k_ ≠ ((.slice Ao17 x9_1.length co17) : Value).ownBlock) v279 t277) ∧ Aside0 (Kd.R (Kd.int .i64) 3 wc w.heap.size (fun k_ => some k_ ≠ (v279 : Value).ownBlock) (.slice Ao17 x9_1.length co17) x9_1) ∧ Aside0 (Below w.heap.size w wc))
          case first =>
           have H := HC18.out
           clear HC18
           by_cases c19 : x13_3 < (t277.length : Int)
           ·rw [if_pos c19] at H
            have c19b0 : decide (x13_3 < (t277.length : Int)) = true := decide_eq_true c19
            clear c19
            (first | rw [c19b0] | (simp only [i64_w, i32_w]; rw [c19b0]) | skip)
            have H' := Aside0.mk H
            clear H
            obtain ⟨Ao20, co20, eo20⟩ := Kd.R_slice HO_7.out
            subst eo20
            go_wp2
            go_meet
            case rel => exact ⟨_, (x12_3), (by first | rfl | (simp; done) | (simp [*]; done)), H', ⟨by have := HK1.out; have := HK2.out; have := HK3.out; first | omega | exact Nat.le_refl _⟩, ⟨by (with_reducible repeat (first | apply Kd.R_alloc | apply Kd.R_drewN | apply Kd.R_drew)); exact HO_7.out⟩, ⟨by (with_reducible repeat (first | apply Kd.R_alloc | apply Kd.R_drewN | apply Kd.R_drew)); exact HO_9.out⟩, ⟨by repeat (first | (with_reducible first | exact HB.out | apply below_alloc | apply pw_below_drewN | apply below_drew1) | exact HB.out)⟩⟩
           ·rw [if_neg c19] at H
            have c19b0 : decide (x13_3 < (t277.length : Int)) = false := decide_eq_false c19
            clear c19
            (first | rw [c19b0] | (simp only [i64_w, i32_w]; rw [c19b0]) | skip)
            have H' := Aside0.mk H
            clear H
            obtain ⟨Ao21, co21, eo21⟩ := Kd.R_slice HO_7.out
            subst eo21
            go_wp2
            go_meet
            case rel => exact ⟨_, (false), (by first | rfl | (simp; done) | (simp [*]; done)), H', ⟨by have := HK1.out; have := HK2.out; have := HK3.out; first | omega | exact Nat.le_refl _⟩, ⟨by (with_reducible repeat (first | apply Kd.R_alloc | apply Kd.R_drewN | apply Kd.R_drew)); exact HO_7.out⟩, ⟨by (with_reducible repeat (first | apply Kd.R_alloc | apply Kd.R_drewN | apply Kd.R_drew)); exact HO_9.out⟩, ⟨by repeat (first | (with_reducible first | exact HB.out | apply below_alloc | apply pw_below_drewN | apply below_drew1) | exact HB.out)⟩⟩
          case rest =>
           clear HC18
           try clear c1
           try clear c2
           try clear p2
           try clear q2
           try clear hx2
           try clear c5
           try clear p6
           try clear c8
           try clear c9
           try clear c9b0
           try clear c10
           try clear c10b0
           try clear c12
           try clear c13
           try clear c16
           try clear c16b0
           try clear c19
           try clear c19b0
           try clear hx284_0
           try clear hx284_1
           try clear hx284_2
           try clear hx284_3
           try clear hx284_4
           try clear hx284_5
           try clear hx284_6
           try clear hx284_7
           try clear hx284_8
           try clear hx286_0
           try clear hx286_1
           try clear hx286_2
           try clear hx286_3
           try clear hx286_4
           try clear hx286_5
           try clear hx286_6
           try clear hx286_7
           try clear hx286_8
           try clear p2
           try clear p284
           try clear p286
           try clear p6
           try clear q2
           try clear q284
           try clear q286
           obtain ⟨kq, x56_17, rfl, HA, HJ17, HO_7, HO_9, HB⟩ := hcut
           cases kq with
           | zero => exact absurd HA.out (by simp [spec_CouldBe.j3])
           | succ kj17 =>
            have H := HA.out
            clear HA
            simp only [spec_CouldBe.j3] at H
            by_cases c22 : x56_17 = true
            ·subst c22
             have H1 : (if 0 ≤ x13_3 then (if x13_3 < (t277.length : Int) then (if 0 ≤ (rd t277 x13_3) then (if (rd t277 x13_3) < (l1.length : Int) then (if 0 ≤ x11_2 then (if x11_2 < (x9_1.length : Int) then ((spec_FollowAt.f kj17 l0 ((rd_T93 l1 (rd t277 x13_3)).f0.f0) ((rd_T93 l1 (rd t277 x13_3)).f0.f1) ((rd_T93 l1 (rd t277 x13_3)).f0.f2) (rd x9_1 x11_2)).bind fun bt293 => ((spec_EqualResources.f kj17 bt293.1 bt293.2.1 bt293.2.2.1 bt293.2.2.2.1 bt293.2.2.2.2.1 ((rd_T93 l1 (rd t277 x13_3)).f2.f0) ((rd_T93 l1 (rd t277 x13_3)).f2.f1) ((rd_T93 l1 (rd t277 x13_3)).f2.f2.f0) ((rd_T93 l1 (rd t277 x13_3)).f2.f2.f1) ((rd_T93 l1 (rd t277 x13_3)).f2.f2.f2)).bind fun t306 => (spec_CouldBe.l2 kj17 l0 l1 t277 x9_1 x11_2 t306 (wrap64 (x13_3 + 1))))) else (none)) else (none)) else (none)) else (none)) else (none)) else (none)) = some r := by rw [if_pos rfl] at H; exact H
             clear H
             have H := H1
             clear H1
             by_cases c23 : 0 ≤ x13_3
             ·rw [if_pos c23] at H
              have c23b0 : decide (0 ≤ x13_3) = true := decide_eq_true c23
              clear c23
              by_cases c24 : x13_3 < (t277.length : Int)
              ·rw [if_pos c24] at H
               have c24b0 : decide (x13_3 < (t277.length : Int)) = true := decide_eq_true c24
               clear c24
               by_cases c25 : 0 ≤ (rd t277 x13_3)
               ·rw [if_pos c25] at H
                have c25b0 : decide (0 ≤ (rd t277 x13_3)) = true := decide_eq_true c25
                clear c25
                by_cases c26 : (rd t277 x13_3) < (l1.length : Int)
                ·rw [if_pos c26] at H
                 have c26b0 : decide ((rd t277 x13_3) < (l1.length : Int)) = true := decide_eq_true c26
                 clear c26
                 by_cases c27 : 0 ≤ x11_2
                 ·rw [if_pos c27] at H
                  have c27b0 : decide (0 ≤ x11_2) = true := decide_eq_true c27
                  clear c27
                  by_cases c28 : x11_2 < (x9_1.length : Int)
                  ·rw [if_pos c28] at H
                   have c28b0 : decide (x11_2 < (x9_1.length : Int)) = true := decide_eq_true c28
                   clear c28
                   replace H := Option.bind_eq_some_iff.mp H
                   obtain ⟨⟨t293, t294, t297, t298, t299, t300⟩, A290, H⟩ := H
                   replace H : ((spec_EqualResources.f kj17 t293 t294 t297 t298 t299 ((rd_T93 l1 (rd t277 x13_3)).f2.f0) ((rd_T93 l1 (rd t277 x13_3)).f2.f1) ((rd_T93 l1 (rd t277 x13_3)).f2.f2.f0) ((rd_T93 l1 (rd t277 x13_3)).f2.f2.f1) ((rd_T93 l1 (rd t277 x13_3)).f2.f2.f2)).bind fun t306 => (spec_CouldBe.l2 kj17 l0 l1 t277 x9_1 x11_2 t306 (wrap64 (x13_3 + 1)))) = some r := H
                   have A29 := Aside0.mk A290
                   clear A290
                   replace H := Option.bind_eq_some_iff.mp H
                   obtain ⟨t306, A300, H⟩ := H
                   replace H : (spec_CouldBe.l2 kj17 l0 l1 t277 x9_1 x11_2 t306 (wrap64 (x13_3 + 1))) = some r := H
                   have A30 := Aside0.mk A300
                   clear A300
                   have H' := Aside0.mk H
                   clear H
                   try go_wp2
                   have n0_ := Aside0.mk (Kd.R_drew HO_7.out)
                   have n1_ := Aside0.mk (Kd.R_drew HO_9.out)
                   have n2_ := Aside0.mk (below_drew1 HB.out)
                   clear HO_7
                   clear HO_9
                   clear HB
                   have HO_7 := n0_
                   have HO_9 := n1_
                   have HB := n2_
                   clear n0_ n1_ n2_
                   obtain ⟨Ao32, co32, eo32⟩ := Kd.R_slice HO_7.out
                   (first | subst eo32 | (injection eo32 with f1_ f2_ f3_; have f4_ := f1_.symm; have f5_ := f3_.symm; clear f1_ f2_ f3_; subst f4_; subst f5_))
                   have p290 : 0 ≤ (x13_3 : Int) := of_decide_eq_true (by first | (with_reducible assumption) | assumption)
                   have q290 : x13_3 < (t277.length : Int) := of_decide_eq_true (by first | (with_reducible assumption) | assumption)
                   obtain ⟨ad290, e290, hx290_0⟩ := Kd.at_int (Kd.R_reads' HO_7.out).2.2 x13_3 p290 q290
                   cases e290
                   replace p290 := eq_true p290
                   replace q290 := eq_true q290
                   have p291 : 0 ≤ ((rd t277 x13_3) : Int) := of_decide_eq_true (by first | (with_reducible assumption) | assumption)
                   have q291 : (rd t277 x13_3) < (l1.length : Int) := of_decide_eq_true (by first | (with_reducible assumption) | assumption)
                   obtain ⟨ad291, A291_5, c291_5, e291, hx291_0, hx291_1, hx291_2, hx291_3, hx291_4, hx291_5, hx291_6, hx291_7, hx291_8, hl291_5, hi291_5⟩ := at_T93 HR1.out (rd t277 x13_3) p291 q291
                   have hw291_8 := hx291_8
                   have hw291_7 := hx291_7
                   have hw291_6 := hx291_6
                   have hw291_5 := hx291_5
                   have hw291_4 := hx291_4
                   have hw291_3 := hx291_3
                   have hw291_2 := hx291_2
                   have hw291_1 := hx291_1
                   have hw291_0 := hx291_0
                   cases e291
                   replace hx291_0 := (HB.out.cell (World.block_lt_of_cell? w _ hx291_0)).trans hx291_0
                   replace hx291_1 := (HB.out.cell (World.block_lt_of_cell? w _ hx291_1)).trans hx291_1
                   replace hx291_2 := (HB.out.cell (World.block_lt_of_cell? w _ hx291_2)).trans hx291_2
                   replace hx291_3 := (HB.out.cell (World.block_lt_of_cell? w _ hx291_3)).trans hx291_3
                   replace hx291_4 := (HB.out.cell (World.block_lt_of_cell? w _ hx291_4)).trans hx291_4
                   replace hx291_5 := (HB.out.cell (World.block_lt_of_cell? w _ hx291_5)).trans hx291_5
                   replace hx291_6 := (HB.out.cell (World.block_lt_of_cell? w _ hx291_6)).trans hx291_6
                   replace hx291_7 := (HB.out.cell (World.block_lt_of_cell? w _ hx291_7)).trans hx291_7
                   replace hx291_8 := (HB.out.cell (World.block_lt_of_cell? w _ hx291_8)).trans hx291_8
                   have HR291_5 := Aside0.mk hi291_5
                   have HC291_5 := Aside0.mk hl291_5
                   clear hi291_5 hl291_5
                   replace p291 := eq_true p291
                   replace q291 := eq_true q291
                   have p292 : 0 ≤ (x11_2 : Int) := of_decide_eq_true (by first | (with_reducible assumption) | assumption)
                   have q292 : x11_2 < (x9_1.length : Int) := of_decide_eq_true (by first | (with_reducible assumption) | assumption)
                   obtain ⟨ad292, e292, hx292_0⟩ := Kd.at_int (Kd.R_reads' HO_9.out).2.2 x11_2 p292 q292
                   cases e292
                   replace p292 := eq_true p292
                   replace q292 := eq_true q292
                   refine start_ (n := 20) (S := fun w' => w'.cell? (ad290.add (x13_3).toNat) = some (.int .i64 (rd t277 x13_3)) ∧ w'.cell? (ad291.add (((rd t277 x13_3)).toNat * 9)) = some (.int .i64 ((rd_T93 l1 (rd t277 x13_3)).f0.f0)) ∧ w'.cell? ⟨(ad291.add (((rd t277 x13_3)).toNat * 9)).block, (ad291.add (((rd t277 x13_3)).toNat * 9)).off + 1, none⟩ = some (.int .i64 ((rd_T93 l1 (rd t277 x13_3)).f0.f1)) ∧ w'.cell? ⟨(ad291.add (((rd t277 x13_3)).toNat * 9)).block, (ad291.add (((rd t277 x13_3)).toNat * 9)).off + 2, none⟩ = some (.int .i64 ((rd_T93 l1 (rd t277 x13_3)).f0.f2)) ∧ w'.cell? ⟨(ad291.add (((rd t277 x13_3)).toNat * 9)).block, (ad291.add (((rd t277 x13_3)).toNat * 9)).off + 3, none⟩ = some (.int .i64 ((rd_T93 l1 (rd t277 x13_3)).f1)) ∧ w'.cell? ⟨(ad291.add (((rd t277 x13_3)).toNat * 9)).block, (ad291.add (((rd t277 x13_3)).toNat * 9)).off + 4, none⟩ = some (.int .i64 ((rd_T93 l1 (rd t277 x13_3)).f2.f0)) ∧ w'.cell? ⟨(ad291.add (((rd t277 x13_3)).toNat * 9)).block, (ad291.add (((rd t277 x13_3)).toNat * 9)).off + 5, none⟩ = some (.slice A291_5 ((rd_T93 l1 (rd t277 x13_3)).f2.f1).length c291_5) ∧ w'.cell? ⟨(ad291.add (((rd t277 x13_3)).toNat * 9)).block, (ad291.add (((rd t277 x13_3)).toNat * 9)).off + 6, none⟩ = some (.int .i64 ((rd_T93 l1 (rd t277 x13_3)).f2.f2.f0)) ∧ w'.cell? ⟨(ad291.add (((rd t277 x13_3)).toNat * 9)).block, (ad291.add (((rd t277 x13_3)).toNat * 9)).off + 7, none⟩ = some (.int .i64 ((rd_T93 l1 (rd t277 x13_3)).f2.f2.f1)) ∧ w'.cell? ⟨(ad291.add (((rd t277 x13_3)).toNat * 9)).block, (ad291.add (((rd t277 x13_3)).toNat * 9)).off + 8, none⟩ = some (.int .i64 ((rd_T93 l1 (rd t277 x13_3)).f2.f2.f2)) ∧ w'.cell? (ad292.add (x11_2).toNat) = some (.int .i64 (rd x9_1 x11_2))) (ds := []) #[false, false, false, false, false, false, false, false, false, false, false, false, false, false, false, false, false, false, false, false] (by kernel_rfl) rfl rfl ⟨hx290_0, ((HB.out.cell (World.block_lt_of_cell? w _ hw291_0)).trans hw291_0), ((HB.out.cell (World.block_lt_of_cell? w _ hw291_1)).trans hw291_1), ((HB.out.cell (World.block_lt_of_cell? w _ hw291_2)).trans hw291_2), ((HB.out.cell (World.block_lt_of_cell? w _ hw291_3)).trans hw291_3), ((HB.out.cell (World.block_lt_of_cell? w _ hw291_4)).trans hw291_4), ((HB.out.cell (World.block_lt_of_cell? w _ hw291_5)).trans hw291_5), ((HB.out.cell (World.block_lt_of_cell? w _ hw291_6)).trans hw291_6), ((HB.out.cell (World.block_lt_of_cell? w _ hw291_7)).trans hw291_7), ((HB.out.cell (World.block_lt_of_cell? w _ hw291_8)).trans hw291_8), hx292_0⟩ (fun hHeld => ?_); refine with_tabW spec_CouldBe.tab17 spec_CouldBe.bits17 (fun HT_ HW_ => ?_)
                   generalize wc.drew = w31 at HO_7 HO_9 HB HR291_5 hx290_0 hx291_0 hx291_1 hx291_2 hx291_3 hx291_4 hx291_5 hx291_6 hx291_7 hx291_8 hx292_0 hHeld ⊢
                   refine pure_ (i := 0) (N := some 60) (v := ?_) (a' := ?_) #[true, false, false, false, false, false, false, false, false, false, false, false, false, false, false, false, false, false, false, false] rfl rfl (any_of HT_.out (by kernel_rfl)) (fun _ _ _ h => h) (Or.inl ⟨by rfl, ?_⟩) ?_ ?_
                   rotate_left
                   ·intro w'
                    go_simp
                    with_reducible rfl
                   rotate_left
                   ·simp only [Act.put, List.setIfInBounds_toArray, List.set_cons_zero, List.set_cons_succ, i64_w, i32_w]
                    rfl
                   refine pure_ (i := 1) (N := some 61) (v := ?_) (a' := ?_) #[true, true, false, false, false, false, false, false, false, false, false, false, false, false, false, false, false, false, false, false] rfl rfl (any_of HT_.out (by kernel_rfl)) (fun _ _ _ h => h) (Or.inl ⟨by rfl, ?_⟩) ?_ ?_
                   rotate_left
                   ·intro w'
                    go_simp
                    with_reducible rfl
                   rotate_left
                   ·simp only [Act.put, List.setIfInBounds_toArray, List.set_cons_zero, List.set_cons_succ, i64_w, i32_w]
                    rfl
                   refine pure_ (i := 2) (N := some 62) (v := ?_) (a' := ?_) #[true, true, true, false, false, false, false, false, false, false, false, false, false, false, false, false, false, false, false, false] rfl rfl (any_of HT_.out (by kernel_rfl)) (fun _ _ _ h => h) (Or.inl ⟨by rfl, ?_⟩) ?_ ?_
                   rotate_left
                   ·intro w'
                    go_simp
                    with_reducible rfl
                   rotate_left
                   ·simp only [Act.put, List.setIfInBounds_toArray, List.set_cons_zero, List.set_cons_succ, i64_w, i32_w]
                    rfl
                   refine pure_ (i := 3) (N := some 63) (v := ?_) (a' := ?_) #[true, true, true, true, false, false, false, false, false, false, false, false, false, false, false, false, false, false, false, false] rfl rfl (any_of HT_.out (by kernel_rfl)) (fun _ _ _ h => h) (Or.inl ⟨by rfl, ?_⟩) ?_ ?_
                   rotate_left
                   ·intro w'
                    go_simp
                    with_reducible rfl
                   rotate_left
                   ·simp only [Act.put, List.setIfInBounds_toArray, List.set_cons_zero, List.set_cons_succ, i64_w, i32_w]
                    rfl
                   refine pure_ (i := 4) (N := some 64) (v := ?_) (a' := ?_) #[true, true, true, true, true, false, false, false, false, false, false, false, false, false, false, false, false, false, false, false] rfl rfl (any_of HT_.out (by kernel_rfl)) (fun _ _ _ h => h) (Or.inl ⟨by rfl, ?_⟩) ?_ ?_
                   rotate_left
                   ·intro w'
                    go_simp
                    with_reducible rfl
                   rotate_left
                   ·simp only [Act.put, List.setIfInBounds_toArray, List.set_cons_zero, List.set_cons_succ, i64_w, i32_w]
                    rfl
                   refine pure_ (i := 9) (N := some 69) (v := ?_) (a' := ?_) #[true, true, true, true, true, false, false, false, false, true, false, false, false, false, false, false, false, false, false, false] rfl rfl (any_of HT_.out (by kernel_rfl)) (fun _ _ _ h => h) (Or.inl ⟨by rfl, ?_⟩) ?_ ?_
                   rotate_left
                   ·intro w'
                    go_simp
                    with_reducible rfl
                   rotate_left
                   ·simp only [Act.put, List.setIfInBounds_toArray, List.set_cons_zero, List.set_cons_succ, i64_w, i32_w]
                    rfl
                   refine pure_ (i := 10) (N := some 70) (v := ?_) (a' := ?_) #[true, true, true, true, true, false, false, false, false, true, true, false, false, false, false, false, false, false, false, false] rfl rfl (any_of HT_.out (by kernel_rfl)) (fun _ _ _ h => h) (Or.inl ⟨by rfl, ?_⟩) ?_ ?_
                   rotate_left
                   ·intro w'
                    go_simp
                    with_reducible rfl
                   rotate_left
                   ·simp only [Act.put, List.setIfInBounds_toArray, List.set_cons_zero, List.set_cons_succ, i64_w, i32_w]
                    rfl
                   refine pure_ (i := 11) (N := some 71) (v := ?_) (a' := ?_) #[true, true, true, true, true, false, false, false, false, true, true, true, false, false, false, false, false, false, false, false] rfl rfl (any_of HT_.out (by kernel_rfl)) (fun _ _ _ h => h) (Or.inl ⟨by rfl, ?_⟩) ?_ ?_
                   rotate_left
                   ·intro w'
                    go_simp
                    with_reducible rfl
                   rotate_left
                   ·simp only [Act.put, List.setIfInBounds_toArray, List.set_cons_zero, List.set_cons_succ, i64_w, i32_w]
                    rfl
                   refine take_ (i := 5) (N := some 65) (v := ?_) (a' := ?_) #[true, true, true, true, true, true, false, false, false, true, true, true, false, false, false, false, false, false, false, false] rfl rfl (take_ofW HT_.out HW_.out (by kernel_rfl)) (fun _ _ _ h => h) (Or.inl ⟨by rfl, ?_⟩) hHeld ?_ ?_
                   rotate_left
                   ·rintro w' ⟨s0, s1, s2, s3, s4, s5, s6, s7, s8, s9, s10⟩
                    go_simp
                    with_reducible rfl
                   rotate_left
                   ·simp only [Act.put, List.setIfInBounds_toArray, List.set_cons_zero, List.set_cons_succ, i64_w, i32_w]
                    rfl
                   refine pure_ (i := 6) (N := some 66) (v := ?_) (a' := ?_) #[true, true, true, true, true, true, true, false, false, true, true, true, false, false, false, false, false, false, false, false] rfl rfl (any_of HT_.out (by kernel_rfl)) (fun _ _ _ h => h) (Or.inl ⟨by rfl, ?_⟩) ?_ ?_
                   rotate_left
                   ·intro w'
                    go_simp
                    with_reducible rfl
                   rotate_left
                   ·simp only [Act.put, List.setIfInBounds_toArray, List.set_cons_zero, List.set_cons_succ, i64_w, i32_w]
                    rfl
                   refine pure_ (i := 7) (N := some 67) (v := ?_) (a' := ?_) #[true, true, true, true, true, true, true, true, false, true, true, true, false, false, false, false, false, false, false, false] rfl rfl (any_of HT_.out (by kernel_rfl)) (fun _ _ _ h => h) (Or.inl ⟨by rfl, ?_⟩) ?_ ?_
                   rotate_left
                   ·intro w'
                    go_simp
                    with_reducible rfl
                   rotate_left
                   ·simp only [Act.put, List.setIfInBounds_toArray, List.set_cons_zero, List.set_cons_succ, i64_w, i32_w]
                    rfl
                   refine take_ (i := 8) (N := some 68) (v := ?_) (a' := ?_) #[true, true, true, true, true, true, true, true, true, true, true, true, false, false, false, false, false, false, false, false] rfl rfl (take_ofW HT_.out HW_.out (by kernel_rfl)) (fun _ _ _ h => h) (Or.inl ⟨by rfl, ?_⟩) hHeld ?_ ?_
                   rotate_left
                   ·rintro w' ⟨s0, s1, s2, s3, s4, s5, s6, s7, s8, s9, s10⟩
                    go_simp
                    with_reducible rfl
                   rotate_left
                   ·simp only [Act.put, List.setIfInBounds_toArray, List.set_cons_zero, List.set_cons_succ, i64_w, i32_w]
                    rfl
                   refine take_ (i := 12) (N := some 72) (v := ?_) (a' := ?_) #[true, true, true, true, true, true, true, true, true, true, true, true, true, false, false, false, false, false, false, false] rfl rfl (take_ofW HT_.out HW_.out (by kernel_rfl)) (fun _ _ _ h => h) (Or.inl ⟨by rfl, ?_⟩) hHeld ?_ ?_
                   rotate_left
                   ·rintro w' ⟨s0, s1, s2, s3, s4, s5, s6, s7, s8, s9, s10⟩
                    go_simp
                    with_reducible rfl
                   rotate_left
                   ·simp only [Act.put, List.setIfInBounds_toArray, List.set_cons_zero, List.set_cons_succ, i64_w, i32_w]
                    rfl
                   refine join_ (σ := Value × Value × Nat) 2 #[true, true, true, true, true, true, true, true, true, true, true, true, true, true, true, true, true, true, false, false] (fun s_ => [(73, .tuple #[.agg #[.int .i64 t293, s_.1, .int .i64 t297, .int .i64 t298, .int .i64 t299], s_.2.1]), (14, .pointer (some ⟨s_.2.2, 0, none⟩)), (59, .tuple #[.agg #[.int .i64 t293, s_.1, .int .i64 t297, .int .i64 t298, .int .i64 t299], s_.2.1]), (74, .agg #[.int .i64 t293, s_.1, .int .i64 t297, .int .i64 t298, .int .i64 t299]), (75, s_.2.1)]) (fun s_ w' => (w'.cell? (ad290.add (x13_3).toNat) = some (.int .i64 (rd t277 x13_3)) ∧ w'.cell? (ad291.add (((rd t277 x13_3)).toNat * 9)) = some (.int .i64 ((rd_T93 l1 (rd t277 x13_3)).f0.f0)) ∧ w'.cell? ⟨(ad291.add (((rd t277 x13_3)).toNat * 9)).block, (ad291.add (((rd t277 x13_3)).toNat * 9)).off + 1, none⟩ = some (.int .i64 ((rd_T93 l1 (rd t277 x13_3)).f0.f1)) ∧ w'.cell? ⟨(ad291.add (((rd t277 x13_3)).toNat * 9)).block, (ad291.add (((rd t277 x13_3)).toNat * 9)).off + 2, none⟩ = some (.int .i64 ((rd_T93 l1 (rd t277 x13_3)).f0.f2)) ∧ w'.cell? ⟨(ad291.add (((rd t277 x13_3)).toNat * 9)).block, (ad291.add (((rd t277 x13_3)).toNat * 9)).off + 3, none⟩ = some (.int .i64 ((rd_T93 l1 (rd t277 x13_3)).f1)) ∧ w'.cell? ⟨(ad291.add (((rd t277 x13_3)).toNat * 9)).block, (ad291.add (((rd t277 x13_3)).toNat * 9)).off + 4, none⟩ = some (.int .i64 ((rd_T93 l1 (rd t277 x13_3)).f2.f0)) ∧ w'.cell? ⟨(ad291.add (((rd t277 x13_3)).toNat * 9)).block, (ad291.add (((rd t277 x13_3)).toNat * 9)).off + 5, none⟩ = some (.slice A291_5 ((rd_T93 l1 (rd t277 x13_3)).f2.f1).length c291_5) ∧ w'.cell? ⟨(ad291.add (((rd t277 x13_3)).toNat * 9)).block, (ad291.add (((rd t277 x13_3)).toNat * 9)).off + 6, none⟩ = some (.int .i64 ((rd_T93 l1 (rd t277 x13_3)).f2.f2.f0)) ∧ w'.cell? ⟨(ad291.add (((rd t277 x13_3)).toNat * 9)).block, (ad291.add (((rd t277 x13_3)).toNat * 9)).off + 7, none⟩ = some (.int .i64 ((rd_T93 l1 (rd t277 x13_3)).f2.f2.f1)) ∧ w'.cell? ⟨(ad291.add (((rd t277 x13_3)).toNat * 9)).block, (ad291.add (((rd t277 x13_3)).toNat * 9)).off + 8, none⟩ = some (.int .i64 ((rd_T93 l1 (rd t277 x13_3)).f2.f2.f2)) ∧ w'.cell? (ad292.add (x11_2).toNat) = some (.int .i64 (rd x9_1 x11_2))) ∧ (Kd.R (Kd.int .i64) 3 w' w.heap.size (fun k_ => some k_ ≠ (.slice (some ad290) t277.length co32 : Value).ownBlock ∧ some k_ ≠ (.slice (some ad292) x9_1.length co17 : Value).ownBlock) s_.1 t294) ∧ (Kd.R k31 31 w' w.heap.size (fun _ => True) s_.2.1 t300) ∧ (Kd.R (Kd.int .i64) 3 w' w.heap.size (fun k_ => some k_ ≠ (s_.1 : Value).ownBlock ∧ some k_ ≠ (.slice (some ad292) x9_1.length co17 : Value).ownBlock) (.slice (some ad290) t277.length co32) t277) ∧ (Kd.R (Kd.int .i64) 3 w' w.heap.size (fun k_ => some k_ ≠ (s_.1 : Value).ownBlock ∧ some k_ ≠ (.slice (some ad290) t277.length co32 : Value).ownBlock) (.slice (some ad292) x9_1.length co17) x9_1) ∧ (w'.heap[s_.2.2]? = some (.cells #[.int .i64 0, .slice none 0 0, .int .i64 0, .int .i64 0, .int .i64 0] 51 (0, 0))) ∧ (w.heap.size ≤ s_.2.2) ∧ (w.heap.size ≤ s_.2.2) ∧ (Below w.heap.size w w')) ?_ ?_
                   rotate_left
                   ·intro hCont
                    refine two_ (i := 13) (j := 17) (Ni := some 73) (Nj := some 14) #[true, true, true, true, true, true, true, true, true, true, true, true, true, true, false, false, false, false, false, false] #[true, true, true, true, true, true, true, true, true, true, true, true, true, false, false, false, false, true, false, false] rfl rfl rfl rfl (two_of HT_.out (by kernel_rfl)) (by decide) (by decide) (fun K hK => ?_) (fun K hK => ?_)
                    ·skip
                     refine goes_ Try.func140 (by kernel_rfl) rfl #[.slice A0 l0.length c0, .agg #[.int .i64 ((rd_T93 l1 (rd t277 x13_3)).f0.f0), .int .i64 ((rd_T93 l1 (rd t277 x13_3)).f0.f1), .int .i64 ((rd_T93 l1 (rd t277 x13_3)).f0.f2)], .int .i64 (rd x9_1 x11_2)] (by rfl) rfl rfl (by (try simp only [List.map_toArray, List.map_cons, List.map_nil]); first | done | rfl | (simp only [List.length_drop, List.length_take]; rfl)) ?_
                     with_reducible refine (spec_FollowAt.calls kj17 _ _ l0 ((rd_T93 l1 (rd t277 x13_3)).f0.f0) ((rd_T93 l1 (rd t277 x13_3)).f0.f1) ((rd_T93 l1 (rd t277 x13_3)).f0.f2) (rd x9_1 x11_2) t293 t294 t297 t298 t299 t300 _ ?side1 ?side2 A29.out).mono ?_
                     (case side1 => repeat (first | exact (Kd.C_below HR0.out HB.out) | (with_reducible refine Kd.C_alloc ?_ _) | (with_reducible refine Kd.C_drewN ?_ _) | (with_reducible refine Kd.C_drew ?_)))
                     (case side2 => exact HC0.out)
                     rintro e w33 ⟨v295, v301, rfl, ho0, ho1, hb⟩
                     have HS0_ := (hb.cell (World.block_lt_of_cell? _ _ (hHeld.1))).trans (hHeld.1)
                     have HS10_ := (hb.cell (World.block_lt_of_cell? _ _ (hHeld.2.2.2.2.2.2.2.2.2.2))).trans (hHeld.2.2.2.2.2.2.2.2.2.2)
                     refine ⟨_, rfl, ?_⟩
                     have n0_ := Aside0.mk (Kd.R_elder' (by (with_reducible repeat (first | apply Kd.R_alloc | apply Kd.R_drewN | apply Kd.R_drew)); exact HO_7.out) (Kd.R_base ho0) hb)
                     have n1_ := Aside0.mk (Kd.R_elder' (by (with_reducible repeat (first | apply Kd.R_alloc | apply Kd.R_drewN | apply Kd.R_drew)); exact HO_9.out) (Kd.R_base ho0) hb)
                     have n2_ := Aside0.mk (Kd.R_lower (Kd.R_new' (Kd.R_new' ho0 (Kd.R_lt (by (with_reducible repeat (first | apply Kd.R_alloc | apply Kd.R_drewN | apply Kd.R_drew)); exact HO_7.out))) (Kd.R_lt (by (with_reducible repeat (first | apply Kd.R_alloc | apply Kd.R_drewN | apply Kd.R_drew)); exact HO_9.out))) (below_size (by repeat (first | (with_reducible first | exact HB.out | apply below_alloc | apply pw_below_drewN | apply below_drew1) | exact HB.out))))
                     have n3_ := Aside0.mk (Kd.R_lower ho1 (below_size (by repeat (first | (with_reducible first | exact HB.out | apply below_alloc | apply pw_below_drewN | apply below_drew1) | exact HB.out))))
                     have n4_ := Aside0.mk (below_step (by repeat (first | (with_reducible first | exact HB.out | apply below_alloc | apply pw_below_drewN | apply below_drew1) | exact HB.out)) hb)
                     clear HO_7
                     clear HO_9
                     clear HB
                     have HO_7 := n0_
                     have HO_9 := n1_
                     have HO296 := n2_
                     have HO302 := n3_
                     have HB := n4_
                     clear n0_ n1_ n2_ n3_ n4_
                     (try clear hb)
                     (try clear hb2)
                     (try clear hk)
                     (try clear hi)
                     (try clear ho0)
                     (try clear ho1)
                     refine hK.out _ _ ⟨HS0_, ((HB.out.cell (World.block_lt_of_cell? w _ hw291_0)).trans hw291_0), ((HB.out.cell (World.block_lt_of_cell? w _ hw291_1)).trans hw291_1), ((HB.out.cell (World.block_lt_of_cell? w _ hw291_2)).trans hw291_2), ((HB.out.cell (World.block_lt_of_cell? w _ hw291_3)).trans hw291_3), ((HB.out.cell (World.block_lt_of_cell? w _ hw291_4)).trans hw291_4), ((HB.out.cell (World.block_lt_of_cell? w _ hw291_5)).trans hw291_5), ((HB.out.cell (World.block_lt_of_cell? w _ hw291_6)).trans hw291_6), ((HB.out.cell (World.block_lt_of_cell? w _ hw291_7)).trans hw291_7), ((HB.out.cell (World.block_lt_of_cell? w _ hw291_8)).trans hw291_8), HS10_⟩ (fun hHeld => ?_)
                     clear hK K
                     refine norm_ (a' := ?_) ?_ ?_
                     rotate_left
                     ·show Act.put _ (some 73) _ = _
                      simp only [Act.put, List.setIfInBounds_toArray, List.set_cons_zero, List.set_cons_succ, i64_w, i32_w]
                      rfl
                     refine pure_ (i := 14) (N := some 59) (v := ?_) (a' := ?_) #[true, true, true, true, true, true, true, true, true, true, true, true, true, true, true, false, false, false, false, false] rfl rfl (any_of HT_.out (by kernel_rfl)) (fun _ _ _ h => h) (Or.inl ⟨by rfl, ?_⟩) ?_ ?_
                     rotate_left
                     ·intro w'
                      go_simp
                      with_reducible rfl
                     rotate_left
                     ·simp only [Act.put, List.setIfInBounds_toArray, List.set_cons_zero, List.set_cons_succ, i64_w, i32_w]
                      rfl
                     refine pure_ (i := 15) (N := some 74) (v := ?_) (a' := ?_) #[true, true, true, true, true, true, true, true, true, true, true, true, true, true, true, true, false, false, false, false] rfl rfl (any_of HT_.out (by kernel_rfl)) (fun _ _ _ h => h) (Or.inl ⟨by rfl, ?_⟩) ?_ ?_
                     rotate_left
                     ·intro w'
                      go_simp
                      with_reducible rfl
                     rotate_left
                     ·simp only [Act.put, List.setIfInBounds_toArray, List.set_cons_zero, List.set_cons_succ, i64_w, i32_w]
                      rfl
                     refine pure_ (i := 16) (N := some 75) (v := ?_) (a' := ?_) #[true, true, true, true, true, true, true, true, true, true, true, true, true, true, true, true, true, false, false, false] rfl rfl (any_of HT_.out (by kernel_rfl)) (fun _ _ _ h => h) (Or.inl ⟨by rfl, ?_⟩) ?_ ?_
                     rotate_left
                     ·intro w'
                      go_simp
                      with_reducible rfl
                     rotate_left
                     ·simp only [Act.put, List.setIfInBounds_toArray, List.set_cons_zero, List.set_cons_succ, i64_w, i32_w]
                      rfl
                     refine one_ (i := 17) (N := some 14) #[true, true, true, true, true, true, true, true, true, true, true, true, true, true, true, true, true, true, false, false] rfl rfl (one_of HT_.out (by kernel_rfl)) (by decide) (fun K hK => ?_)
                     refine box_step ?hg (N := 14) ?hd (cs := #[.int .i64 0, .slice none 0 0, .int .i64 0, .int .i64 0, .int .i64 0]) (t := 51) ?hr ?_; (case hd => rfl); (case hg => rfl); (case hr => first | (go_simp; done) | (go_simp; rfl))
                     intro gb303 hg w34 hbox hb
                     have HS0_ := (hb.cell (World.block_lt_of_cell? _ _ (hHeld.1))).trans (hHeld.1)
                     have HS10_ := (hb.cell (World.block_lt_of_cell? _ _ (hHeld.2.2.2.2.2.2.2.2.2.2))).trans (hHeld.2.2.2.2.2.2.2.2.2.2)
                     have n0_ := Aside0.mk (Kd.R_below (by (with_reducible repeat (first | apply Kd.R_alloc | apply Kd.R_drewN | apply Kd.R_drew)); exact HO_7.out) hb)
                     have n1_ := Aside0.mk (Kd.R_below (by (with_reducible repeat (first | apply Kd.R_alloc | apply Kd.R_drewN | apply Kd.R_drew)); exact HO_9.out) hb)
                     have n2_ := Aside0.mk (Kd.R_below (by (with_reducible repeat (first | apply Kd.R_alloc | apply Kd.R_drewN | apply Kd.R_drew)); exact HO296.out) hb)
                     have n3_ := Aside0.mk (Kd.R_below (by (with_reducible repeat (first | apply Kd.R_alloc | apply Kd.R_drewN | apply Kd.R_drew)); exact HO302.out) hb)
                     have n4_ := Aside0.mk (below_step (by repeat (first | (with_reducible first | exact HB.out | apply below_alloc | apply pw_below_drewN | apply below_drew1) | exact HB.out)) hb)
                     have n5_ := Aside0.mk (hbox)
                     have n6_ := Aside0.mk ((by rw [hg]; exact (below_size (by repeat (first | (with_reducible first | exact HB.out | apply below_alloc | apply pw_below_drewN | apply below_drew1) | exact HB.out))) : w.heap.size ≤ gb303))
                     have n7_ := Aside0.mk ((by rw [hg]; exact (below_size (by repeat (first | (with_reducible first | exact HB.out | apply below_alloc | apply pw_below_drewN | apply below_drew1) | exact HB.out))) : w.heap.size ≤ gb303))
                     clear HO_7
                     clear HO_9
                     clear HO296
                     clear HO302
                     clear HB
                     have HO_7 := n0_
                     have HO_9 := n1_
                     have HO296 := n2_
                     have HO302 := n3_
                     have HB := n4_
                     have BK303 := n5_
                     have GW303 := n6_
                     have GE303 := n7_
                     clear n0_ n1_ n2_ n3_ n4_ n5_ n6_ n7_
                     clear hb hbox hg
                     refine hK.out _ _ ⟨HS0_, ((HB.out.cell (World.block_lt_of_cell? w _ hw291_0)).trans hw291_0), ((HB.out.cell (World.block_lt_of_cell? w _ hw291_1)).trans hw291_1), ((HB.out.cell (World.block_lt_of_cell? w _ hw291_2)).trans hw291_2), ((HB.out.cell (World.block_lt_of_cell? w _ hw291_3)).trans hw291_3), ((HB.out.cell (World.block_lt_of_cell? w _ hw291_4)).trans hw291_4), ((HB.out.cell (World.block_lt_of_cell? w _ hw291_5)).trans hw291_5), ((HB.out.cell (World.block_lt_of_cell? w _ hw291_6)).trans hw291_6), ((HB.out.cell (World.block_lt_of_cell? w _ hw291_7)).trans hw291_7), ((HB.out.cell (World.block_lt_of_cell? w _ hw291_8)).trans hw291_8), HS10_⟩ (fun hHeld => ?_)
                     clear hK K
                     refine norm_ (a' := ?_) ?_ ?_
                     rotate_left
                     ·show Act.put _ (some 14) _ = _
                      simp only [Act.put, List.setIfInBounds_toArray, List.set_cons_zero, List.set_cons_succ, i64_w, i32_w]
                      rfl
                     exact norm_ (by simp only [putAll, Act.put, List.setIfInBounds_toArray, List.set_cons_zero, List.set_cons_succ]) (hCont (v295, v301, gb303) _ ⟨hHeld, (by (with_reducible repeat (first | apply Kd.R_alloc | apply Kd.R_drewN | apply Kd.R_drew)); exact Kd.R_mono HO296.out (fun _ hk => by first | exact ⟨hk.1.2, hk.2⟩ | simp_all)), (by (with_reducible repeat (first | apply Kd.R_alloc | apply Kd.R_drewN | apply Kd.R_drew)); exact HO302.out), (by (with_reducible repeat (first | apply Kd.R_alloc | apply Kd.R_drewN | apply Kd.R_drew)); exact Kd.R_mono HO_7.out (fun _ hk => by first | exact ⟨hk.2, hk.1⟩ | simp_all)), (by (with_reducible repeat (first | apply Kd.R_alloc | apply Kd.R_drewN | apply Kd.R_drew)); exact Kd.R_mono HO_9.out (fun _ hk => by first | exact ⟨hk.2, hk.1⟩ | simp_all)), (by (with_reducible repeat (first | refine blk_drewN ?_ _ | refine blk_drew ?_ | refine blk_alloc ?_ _)); exact BK303.out), GW303.out, GE303.out, (by repeat (first | (with_reducible first | exact HB.out | apply below_alloc | apply pw_below_drewN | apply below_drew1 | refine below_set ?_ GE303.out) | exact HB.out))⟩)
                    ·skip
                     refine box_step ?hg (N := 14) ?hd (cs := #[.int .i64 0, .slice none 0 0, .int .i64 0, .int .i64 0, .int .i64 0]) (t := 51) ?hr ?_; (case hd => rfl); (case hg => rfl); (case hr => first | (go_simp; done) | (go_simp; rfl))
                     intro gb303 hg w33 hbox hb
                     have HS0_ := (hb.cell (World.block_lt_of_cell? _ _ (hHeld.1))).trans (hHeld.1)
                     have HS10_ := (hb.cell (World.block_lt_of_cell? _ _ (hHeld.2.2.2.2.2.2.2.2.2.2))).trans (hHeld.2.2.2.2.2.2.2.2.2.2)
                     have n0_ := Aside0.mk (Kd.R_below (by (with_reducible repeat (first | apply Kd.R_alloc | apply Kd.R_drewN | apply Kd.R_drew)); exact HO_7.out) hb)
                     have n1_ := Aside0.mk (Kd.R_below (by (with_reducible repeat (first | apply Kd.R_alloc | apply Kd.R_drewN | apply Kd.R_drew)); exact HO_9.out) hb)
                     have n2_ := Aside0.mk (below_step (by repeat (first | (with_reducible first | exact HB.out | apply below_alloc | apply pw_below_drewN | apply below_drew1) | exact HB.out)) hb)
                     have n3_ := Aside0.mk (hbox)
                     have n4_ := Aside0.mk ((by rw [hg]; exact (below_size (by repeat (first | (with_reducible first | exact HB.out | apply below_alloc | apply pw_below_drewN | apply below_drew1) | exact HB.out))) : w.heap.size ≤ gb303))
                     have n5_ := Aside0.mk ((by rw [hg]; exact (below_size (by repeat (first | (with_reducible first | exact HB.out | apply below_alloc | apply pw_below_drewN | apply below_drew1) | exact HB.out))) : w.heap.size ≤ gb303))
                     clear HO_7
                     clear HO_9
                     clear HB
                     have HO_7 := n0_
                     have HO_9 := n1_
                     have HB := n2_
                     have BK303 := n3_
                     have GW303 := n4_
                     have GE303 := n5_
                     clear n0_ n1_ n2_ n3_ n4_ n5_
                     clear hb hbox hg
                     refine hK.out _ _ ⟨HS0_, ((HB.out.cell (World.block_lt_of_cell? w _ hw291_0)).trans hw291_0), ((HB.out.cell (World.block_lt_of_cell? w _ hw291_1)).trans hw291_1), ((HB.out.cell (World.block_lt_of_cell? w _ hw291_2)).trans hw291_2), ((HB.out.cell (World.block_lt_of_cell? w _ hw291_3)).trans hw291_3), ((HB.out.cell (World.block_lt_of_cell? w _ hw291_4)).trans hw291_4), ((HB.out.cell (World.block_lt_of_cell? w _ hw291_5)).trans hw291_5), ((HB.out.cell (World.block_lt_of_cell? w _ hw291_6)).trans hw291_6), ((HB.out.cell (World.block_lt_of_cell? w _ hw291_7)).trans hw291_7), ((HB.out.cell (World.block_lt_of_cell? w _ hw291_8)).trans hw291_8), HS10_⟩ (fun hHeld => ?_)
                     clear hK K
                     refine norm_ (a' := ?_) ?_ ?_
                     rotate_left
                     ·show Act.put _ (some 14) _ = _
                      simp only [Act.put, List.setIfInBounds_toArray, List.set_cons_zero, List.set_cons_succ, i64_w, i32_w]
                      rfl
                     refine one_ (i := 13) (N := some 73) #[true, true, true, true, true, true, true, true, true, true, true, true, true, true, false, false, false, true, false, false] rfl rfl (one_of HT_.out (by kernel_rfl)) (by decide) (fun K hK => ?_)
                     refine goes_ Try.func140 (by kernel_rfl) rfl #[.slice A0 l0.length c0, .agg #[.int .i64 ((rd_T93 l1 (rd t277 x13_3)).f0.f0), .int .i64 ((rd_T93 l1 (rd t277 x13_3)).f0.f1), .int .i64 ((rd_T93 l1 (rd t277 x13_3)).f0.f2)], .int .i64 (rd x9_1 x11_2)] (by rfl) rfl rfl (by (try simp only [List.map_toArray, List.map_cons, List.map_nil]); first | done | rfl | (simp only [List.length_drop, List.length_take]; rfl)) ?_
                     with_reducible refine (spec_FollowAt.calls kj17 _ _ l0 ((rd_T93 l1 (rd t277 x13_3)).f0.f0) ((rd_T93 l1 (rd t277 x13_3)).f0.f1) ((rd_T93 l1 (rd t277 x13_3)).f0.f2) (rd x9_1 x11_2) t293 t294 t297 t298 t299 t300 _ ?side1 ?side2 A29.out).mono ?_
                     (case side1 => repeat (first | exact (Kd.C_below HR0.out HB.out) | (with_reducible refine Kd.C_alloc ?_ _) | (with_reducible refine Kd.C_drewN ?_ _) | (with_reducible refine Kd.C_drew ?_)))
                     (case side2 => exact HC0.out)
                     rintro e w34 ⟨v295, v301, rfl, ho0, ho1, hb⟩
                     have HS0_ := (hb.cell (World.block_lt_of_cell? _ _ (hHeld.1))).trans (hHeld.1)
                     have HS10_ := (hb.cell (World.block_lt_of_cell? _ _ (hHeld.2.2.2.2.2.2.2.2.2.2))).trans (hHeld.2.2.2.2.2.2.2.2.2.2)
                     refine ⟨_, rfl, ?_⟩
                     have n0_ := Aside0.mk (Kd.R_elder' (by (with_reducible repeat (first | apply Kd.R_alloc | apply Kd.R_drewN | apply Kd.R_drew)); exact HO_7.out) (Kd.R_base ho0) hb)
                     have n1_ := Aside0.mk (Kd.R_elder' (by (with_reducible repeat (first | apply Kd.R_alloc | apply Kd.R_drewN | apply Kd.R_drew)); exact HO_9.out) (Kd.R_base ho0) hb)
                     have n2_ := Aside0.mk (Kd.R_lower (Kd.R_new' (Kd.R_new' ho0 (Kd.R_lt (by (with_reducible repeat (first | apply Kd.R_alloc | apply Kd.R_drewN | apply Kd.R_drew)); exact HO_7.out))) (Kd.R_lt (by (with_reducible repeat (first | apply Kd.R_alloc | apply Kd.R_drewN | apply Kd.R_drew)); exact HO_9.out))) (below_size (by repeat (first | (with_reducible first | exact HB.out | apply below_alloc | apply pw_below_drewN | apply below_drew1 | refine below_set ?_ GE303.out) | exact HB.out))))
                     have n3_ := Aside0.mk (Kd.R_lower ho1 (below_size (by repeat (first | (with_reducible first | exact HB.out | apply below_alloc | apply pw_below_drewN | apply below_drew1 | refine below_set ?_ GE303.out) | exact HB.out))))
                     have n4_ := Aside0.mk (blk_below (g := gb303) (o := .cells #[.int .i64 0, .slice none 0 0, .int .i64 0, .int .i64 0, .int .i64 0] 51 (0, 0)) (by (with_reducible repeat (first | refine blk_drewN ?_ _ | refine blk_drew ?_ | refine blk_alloc ?_ _)); exact BK303.out) hb)
                     have n5_ := Aside0.mk (below_step (by repeat (first | (with_reducible first | exact HB.out | apply below_alloc | apply pw_below_drewN | apply below_drew1 | refine below_set ?_ GE303.out) | exact HB.out)) hb)
                     clear HO_7
                     clear HO_9
                     clear BK303
                     clear HB
                     have HO_7 := n0_
                     have HO_9 := n1_
                     have HO296 := n2_
                     have HO302 := n3_
                     have BK303 := n4_
                     have HB := n5_
                     clear n0_ n1_ n2_ n3_ n4_ n5_
                     (try clear hb)
                     (try clear hb2)
                     (try clear hk)
                     (try clear hi)
                     (try clear ho0)
                     (try clear ho1)
                     refine hK.out _ _ ⟨HS0_, ((HB.out.cell (World.block_lt_of_cell? w _ hw291_0)).trans hw291_0), ((HB.out.cell (World.block_lt_of_cell? w _ hw291_1)).trans hw291_1), ((HB.out.cell (World.block_lt_of_cell? w _ hw291_2)).trans hw291_2), ((HB.out.cell (World.block_lt_of_cell? w _ hw291_3)).trans hw291_3), ((HB.out.cell (World.block_lt_of_cell? w _ hw291_4)).trans hw291_4), ((HB.out.cell (World.block_lt_of_cell? w _ hw291_5)).trans hw291_5), ((HB.out.cell (World.block_lt_of_cell? w _ hw291_6)).trans hw291_6), ((HB.out.cell (World.block_lt_of_cell? w _ hw291_7)).trans hw291_7), ((HB.out.cell (World.block_lt_of_cell? w _ hw291_8)).trans hw291_8), HS10_⟩ (fun hHeld => ?_)
                     clear hK K
                     refine norm_ (a' := ?_) ?_ ?_
                     rotate_left
                     ·show Act.put _ (some 73) _ = _
                      simp only [Act.put, List.setIfInBounds_toArray, List.set_cons_zero, List.set_cons_succ, i64_w, i32_w]
                      rfl
                     refine pure_ (i := 14) (N := some 59) (v := ?_) (a' := ?_) #[true, true, true, true, true, true, true, true, true, true, true, true, true, true, true, false, false, true, false, false] rfl rfl (any_of HT_.out (by kernel_rfl)) (fun _ _ _ h => h) (Or.inl ⟨by rfl, ?_⟩) ?_ ?_
                     rotate_left
                     ·intro w'
                      go_simp
                      with_reducible rfl
                     rotate_left
                     ·simp only [Act.put, List.setIfInBounds_toArray, List.set_cons_zero, List.set_cons_succ, i64_w, i32_w]
                      rfl
                     refine pure_ (i := 15) (N := some 74) (v := ?_) (a' := ?_) #[true, true, true, true, true, true, true, true, true, true, true, true, true, true, true, true, false, true, false, false] rfl rfl (any_of HT_.out (by kernel_rfl)) (fun _ _ _ h => h) (Or.inl ⟨by rfl, ?_⟩) ?_ ?_
                     rotate_left
                     ·intro w'
                      go_simp
                      with_reducible rfl
                     rotate_left
                     ·simp only [Act.put, List.setIfInBounds_toArray, List.set_cons_zero, List.set_cons_succ, i64_w, i32_w]
                      rfl
                     refine pure_ (i := 16) (N := some 75) (v := ?_) (a' := ?_) #[true, true, true, true, true, true, true, true, true, true, true, true, true, true, true, true, true, true, false, false] rfl rfl (any_of HT_.out (by kernel_rfl)) (fun _ _ _ h => h) (Or.inl ⟨by rfl, ?_⟩) ?_ ?_
                     rotate_left
                     ·intro w'
                      go_simp
                      with_reducible rfl
                     rotate_left
                     ·simp only [Act.put, List.setIfInBounds_toArray, List.set_cons_zero, List.set_cons_succ, i64_w, i32_w]
                      rfl
                     exact norm_ (by simp only [putAll, Act.put, List.setIfInBounds_toArray, List.set_cons_zero, List.set_cons_succ]) (hCont (v295, v301, gb303) _ ⟨hHeld, (by (with_reducible repeat (first | apply Kd.R_alloc | apply Kd.R_drewN | apply Kd.R_drew)); exact Kd.R_mono HO296.out (fun _ hk => by first | exact ⟨hk.1.2, hk.2⟩ | simp_all)), (by (with_reducible repeat (first | apply Kd.R_alloc | apply Kd.R_drewN | apply Kd.R_drew)); exact HO302.out), (by (with_reducible repeat (first | apply Kd.R_alloc | apply Kd.R_drewN | apply Kd.R_drew)); exact Kd.R_mono HO_7.out (fun _ hk => by first | exact ⟨hk.2, hk.1⟩ | simp_all)), (by (with_reducible repeat (first | apply Kd.R_alloc | apply Kd.R_drewN | apply Kd.R_drew)); exact Kd.R_mono HO_9.out (fun _ hk => by first | exact ⟨hk.2, hk.1⟩ | simp_all)), (by (with_reducible repeat (first | refine blk_drewN ?_ _ | refine blk_drew ?_ | refine blk_alloc ?_ _)); exact BK303.out), GW303.out, GE303.out, (by repeat (first | (with_reducible first | exact HB.out | apply below_alloc | apply pw_below_drewN | apply below_drew1 | refine below_set ?_ GE303.out) | exact HB.out))⟩)
                   rintro ⟨v295, v301, gb303⟩ w35 ⟨hS_, h0_, h1_, h2_, h3_, h4_, h5_, h6_, h7_⟩
                   have n0_ : Aside0 (Kd.R (Kd.int .i64) 3 w35 w.heap.size (fun k_ => some k_ ≠ (.slice (some ad290) t277.length co32 : Value).ownBlock ∧ some k_ ≠ (.slice (some ad292) x9_1.length co17 : Value).ownBlock) v295 t294) := ⟨h0_⟩
                   have n1_ : Aside0 (Kd.R k31 31 w35 w.heap.size (fun _ => True) v301 t300) := ⟨h1_⟩
                   have n2_ : Aside0 (Kd.R (Kd.int .i64) 3 w35 w.heap.size (fun k_ => some k_ ≠ (v295 : Value).ownBlock ∧ some k_ ≠ (.slice (some ad292) x9_1.length co17 : Value).ownBlock) (.slice (some ad290) t277.length co32) t277) := ⟨h2_⟩
                   have n3_ : Aside0 (Kd.R (Kd.int .i64) 3 w35 w.heap.size (fun k_ => some k_ ≠ (v295 : Value).ownBlock ∧ some k_ ≠ (.slice (some ad290) t277.length co32 : Value).ownBlock) (.slice (some ad292) x9_1.length co17) x9_1) := ⟨h3_⟩
                   have n4_ : Aside0 (w35.heap[gb303]? = some (.cells #[.int .i64 0, .slice none 0 0, .int .i64 0, .int .i64 0, .int .i64 0] 51 (0, 0))) := ⟨h4_⟩
                   have n5_ : Aside0 (w.heap.size ≤ gb303) := ⟨h5_⟩
                   have n6_ : Aside0 (w.heap.size ≤ gb303) := ⟨h6_⟩
                   have n7_ : Aside0 (Below w.heap.size w w35) := ⟨h7_⟩
                   clear HO_7
                   clear HO_9
                   clear HB
                   clear h0_ h1_ h2_ h3_ h4_ h5_ h6_ h7_
                   have HO296 := n0_
                   have HO302 := n1_
                   have HO_7 := n2_
                   have HO_9 := n3_
                   have BK303 := n4_
                   have GW303 := n5_
                   have GE303 := n6_
                   have HB := n7_
                   clear n0_ n1_ n2_ n3_ n4_ n5_ n6_ n7_
                   have hHeld : w35.cell? (ad290.add (x13_3).toNat) = some (.int .i64 (rd t277 x13_3)) ∧ w35.cell? (ad291.add (((rd t277 x13_3)).toNat * 9)) = some (.int .i64 ((rd_T93 l1 (rd t277 x13_3)).f0.f0)) ∧ w35.cell? ⟨(ad291.add (((rd t277 x13_3)).toNat * 9)).block, (ad291.add (((rd t277 x13_3)).toNat * 9)).off + 1, none⟩ = some (.int .i64 ((rd_T93 l1 (rd t277 x13_3)).f0.f1)) ∧ w35.cell? ⟨(ad291.add (((rd t277 x13_3)).toNat * 9)).block, (ad291.add (((rd t277 x13_3)).toNat * 9)).off + 2, none⟩ = some (.int .i64 ((rd_T93 l1 (rd t277 x13_3)).f0.f2)) ∧ w35.cell? ⟨(ad291.add (((rd t277 x13_3)).toNat * 9)).block, (ad291.add (((rd t277 x13_3)).toNat * 9)).off + 3, none⟩ = some (.int .i64 ((rd_T93 l1 (rd t277 x13_3)).f1)) ∧ w35.cell? ⟨(ad291.add (((rd t277 x13_3)).toNat * 9)).block, (ad291.add (((rd t277 x13_3)).toNat * 9)).off + 4, none⟩ = some (.int .i64 ((rd_T93 l1 (rd t277 x13_3)).f2.f0)) ∧ w35.cell? ⟨(ad291.add (((rd t277 x13_3)).toNat * 9)).block, (ad291.add (((rd t277 x13_3)).toNat * 9)).off + 5, none⟩ = some (.slice A291_5 ((rd_T93 l1 (rd t277 x13_3)).f2.f1).length c291_5) ∧ w35.cell? ⟨(ad291.add (((rd t277 x13_3)).toNat * 9)).block, (ad291.add (((rd t277 x13_3)).toNat * 9)).off + 6, none⟩ = some (.int .i64 ((rd_T93 l1 (rd t277 x13_3)).f2.f2.f0)) ∧ w35.cell? ⟨(ad291.add (((rd t277 x13_3)).toNat * 9)).block, (ad291.add (((rd t277 x13_3)).toNat * 9)).off + 7, none⟩ = some (.int .i64 ((rd_T93 l1 (rd t277 x13_3)).f2.f2.f1)) ∧ w35.cell? ⟨(ad291.add (((rd t277 x13_3)).toNat * 9)).block, (ad291.add (((rd t277 x13_3)).toNat * 9)).off + 8, none⟩ = some (.int .i64 ((rd_T93 l1 (rd t277 x13_3)).f2.f2.f2)) ∧ w35.cell? (ad292.add (x11_2).toNat) = some (.int .i64 (rd x9_1 x11_2)) := hS_
                   obtain ⟨Ao37, co37, eo37⟩ := Kd.R_slice HO296.out
                   (first | subst eo37 | (injection eo37 with f1_ f2_ f3_; have f4_ := f1_.symm; have f5_ := f3_.symm; clear f1_ f2_ f3_; subst f4_; subst f5_))
                   refine norm_ (a' := ?_) ?_ ?_
                   rotate_left
                   ·simp only [putAll, Act.put, List.setIfInBounds_toArray, List.set_cons_zero, List.set_cons_succ]
                    rfl
                   refine one_ (i := 18) (N := none) #[true, true, true, true, true, true, true, true, true, true, true, true, true, true, true, true, true, true, true, false] rfl rfl (one_of HT_.out (by kernel_rfl)) (by decide) (fun K hK => ?_)
                   have hs36 : w35.cell? ⟨gb303, 0, none⟩ = some (.int .i64 0) := (blk_cell BK303.out 0).trans rfl
                   have hfs36 := blk_frozen BK303.out 0
                   have hs38 : w35.cell? ⟨gb303, 1, none⟩ = some (.slice none 0 0) := (blk_cell BK303.out 1).trans rfl
                   have hfs38 := blk_frozen BK303.out 1
                   have hs39 : w35.cell? ⟨gb303, 2, none⟩ = some (.int .i64 0) := (blk_cell BK303.out 2).trans rfl
                   have hfs39 := blk_frozen BK303.out 2
                   have hs40 : w35.cell? ⟨gb303, 3, none⟩ = some (.int .i64 0) := (blk_cell BK303.out 3).trans rfl
                   have hfs40 := blk_frozen BK303.out 3
                   have hs41 : w35.cell? ⟨gb303, 4, none⟩ = some (.int .i64 0) := (blk_cell BK303.out 4).trans rfl
                   have hfs41 := blk_frozen BK303.out 4
                   refine skip_ (w1 := ?_) (by rfl) rfl ?_ ?_
                   rotate_left
                   ·go_simp
                    rfl
                   refine hK.out _ _ ⟨((cell_far (p := ⟨gb303, _, none⟩) (by first | exact Kd.own_blk (Kd.R_ne HO_7.out BK303.out (by decide)) | (rw [add_block]; exact Kd.own_blk (Kd.R_ne HO_7.out BK303.out (by decide))) | (show (Addr.add _ _).block ≠ _; rw [add_block]; exact Kd.own_blk (Kd.R_ne HO_7.out BK303.out (by decide))) | (dsimp only; exact Kd.own_blk (Kd.R_ne HO_7.out BK303.out (by decide)))) _).trans (((cell_far (p := ⟨gb303, _, none⟩) (by first | exact Kd.own_blk (Kd.R_ne HO_7.out BK303.out (by decide)) | (rw [add_block]; exact Kd.own_blk (Kd.R_ne HO_7.out BK303.out (by decide))) | (show (Addr.add _ _).block ≠ _; rw [add_block]; exact Kd.own_blk (Kd.R_ne HO_7.out BK303.out (by decide))) | (dsimp only; exact Kd.own_blk (Kd.R_ne HO_7.out BK303.out (by decide)))) _).trans (((cell_far (p := ⟨gb303, _, none⟩) (by first | exact Kd.own_blk (Kd.R_ne HO_7.out BK303.out (by decide)) | (rw [add_block]; exact Kd.own_blk (Kd.R_ne HO_7.out BK303.out (by decide))) | (show (Addr.add _ _).block ≠ _; rw [add_block]; exact Kd.own_blk (Kd.R_ne HO_7.out BK303.out (by decide))) | (dsimp only; exact Kd.own_blk (Kd.R_ne HO_7.out BK303.out (by decide)))) _).trans (((cell_far (p := ⟨gb303, _, none⟩) (by first | exact Kd.own_blk (Kd.R_ne HO_7.out BK303.out (by decide)) | (rw [add_block]; exact Kd.own_blk (Kd.R_ne HO_7.out BK303.out (by decide))) | (show (Addr.add _ _).block ≠ _; rw [add_block]; exact Kd.own_blk (Kd.R_ne HO_7.out BK303.out (by decide))) | (dsimp only; exact Kd.own_blk (Kd.R_ne HO_7.out BK303.out (by decide)))) _).trans (((cell_far (p := ⟨gb303, _, none⟩) (by first | exact Kd.own_blk (Kd.R_ne HO_7.out BK303.out (by decide)) | (rw [add_block]; exact Kd.own_blk (Kd.R_ne HO_7.out BK303.out (by decide))) | (show (Addr.add _ _).block ≠ _; rw [add_block]; exact Kd.own_blk (Kd.R_ne HO_7.out BK303.out (by decide))) | (dsimp only; exact Kd.own_blk (Kd.R_ne HO_7.out BK303.out (by decide)))) _).trans (hHeld.1)))))))))), ((cell_far (p := ⟨gb303, _, none⟩) (by first | exact Nat.ne_of_lt (Nat.lt_of_lt_of_le (by have := World.block_lt_of_cell? _ _ hw291_0; first | rwa [add_block] at this | exact this) GW303.out) | (rw [add_block]; exact Nat.ne_of_lt (Nat.lt_of_lt_of_le (by have := World.block_lt_of_cell? _ _ hw291_0; first | rwa [add_block] at this | exact this) GW303.out)) | (show (Addr.add _ _).block ≠ _; rw [add_block]; exact Nat.ne_of_lt (Nat.lt_of_lt_of_le (by have := World.block_lt_of_cell? _ _ hw291_0; first | rwa [add_block] at this | exact this) GW303.out)) | (dsimp only; exact Nat.ne_of_lt (Nat.lt_of_lt_of_le (by have := World.block_lt_of_cell? _ _ hw291_0; first | rwa [add_block] at this | exact this) GW303.out))) _).trans (((cell_far (p := ⟨gb303, _, none⟩) (by first | exact Nat.ne_of_lt (Nat.lt_of_lt_of_le (by have := World.block_lt_of_cell? _ _ hw291_0; first | rwa [add_block] at this | exact this) GW303.out) | (rw [add_block]; exact Nat.ne_of_lt (Nat.lt_of_lt_of_le (by have := World.block_lt_of_cell? _ _ hw291_0; first | rwa [add_block] at this | exact this) GW303.out)) | (show (Addr.add _ _).block ≠ _; rw [add_block]; exact Nat.ne_of_lt (Nat.lt_of_lt_of_le (by have := World.block_lt_of_cell? _ _ hw291_0; first | rwa [add_block] at this | exact this) GW303.out)) | (dsimp only; exact Nat.ne_of_lt (Nat.lt_of_lt_of_le (by have := World.block_lt_of_cell? _ _ hw291_0; first | rwa [add_block] at this | exact this) GW303.out))) _).trans (((cell_far (p := ⟨gb303, _, none⟩) (by first | exact Nat.ne_of_lt (Nat.lt_of_lt_of_le (by have := World.block_lt_of_cell? _ _ hw291_0; first | rwa [add_block] at this | exact this) GW303.out) | (rw [add_block]; exact Nat.ne_of_lt (Nat.lt_of_lt_of_le (by have := World.block_lt_of_cell? _ _ hw291_0; first | rwa [add_block] at this | exact this) GW303.out)) | (show (Addr.add _ _).block ≠ _; rw [add_block]; exact Nat.ne_of_lt (Nat.lt_of_lt_of_le (by have := World.block_lt_of_cell? _ _ hw291_0; first | rwa [add_block] at this | exact this) GW303.out)) | (dsimp only; exact Nat.ne_of_lt (Nat.lt_of_lt_of_le (by have := World.block_lt_of_cell? _ _ hw291_0; first | rwa [add_block] at this | exact this) GW303.out))) _).trans (((cell_far (p := ⟨gb303, _, none⟩) (by first | exact Nat.ne_of_lt (Nat.lt_of_lt_of_le (by have := World.block_lt_of_cell? _ _ hw291_0; first | rwa [add_block] at this | exact this) GW303.out) | (rw [add_block]; exact Nat.ne_of_lt (Nat.lt_of_lt_of_le (by have := World.block_lt_of_cell? _ _ hw291_0; first | rwa [add_block] at this | exact this) GW303.out)) | (show (Addr.add _ _).block ≠ _; rw [add_block]; exact Nat.ne_of_lt (Nat.lt_of_lt_of_le (by have := World.block_lt_of_cell? _ _ hw291_0; first | rwa [add_block] at this | exact this) GW303.out)) | (dsimp only; exact Nat.ne_of_lt (Nat.lt_of_lt_of_le (by have := World.block_lt_of_cell? _ _ hw291_0; first | rwa [add_block] at this | exact this) GW303.out))) _).trans (((cell_far (p := ⟨gb303, _, none⟩) (by first | exact Nat.ne_of_lt (Nat.lt_of_lt_of_le (by have := World.block_lt_of_cell? _ _ hw291_0; first | rwa [add_block] at this | exact this) GW303.out) | (rw [add_block]; exact Nat.ne_of_lt (Nat.lt_of_lt_of_le (by have := World.block_lt_of_cell? _ _ hw291_0; first | rwa [add_block] at this | exact this) GW303.out)) | (show (Addr.add _ _).block ≠ _; rw [add_block]; exact Nat.ne_of_lt (Nat.lt_of_lt_of_le (by have := World.block_lt_of_cell? _ _ hw291_0; first | rwa [add_block] at this | exact this) GW303.out)) | (dsimp only; exact Nat.ne_of_lt (Nat.lt_of_lt_of_le (by have := World.block_lt_of_cell? _ _ hw291_0; first | rwa [add_block] at this | exact this) GW303.out))) _).trans (hHeld.2.1)))))))))), ((cell_far (p := ⟨gb303, _, none⟩) (by first | exact Nat.ne_of_lt (Nat.lt_of_lt_of_le (by have := World.block_lt_of_cell? _ _ hw291_1; first | rwa [add_block] at this | exact this) GW303.out) | (rw [add_block]; exact Nat.ne_of_lt (Nat.lt_of_lt_of_le (by have := World.block_lt_of_cell? _ _ hw291_1; first | rwa [add_block] at this | exact this) GW303.out)) | (show (Addr.add _ _).block ≠ _; rw [add_block]; exact Nat.ne_of_lt (Nat.lt_of_lt_of_le (by have := World.block_lt_of_cell? _ _ hw291_1; first | rwa [add_block] at this | exact this) GW303.out)) | (dsimp only; exact Nat.ne_of_lt (Nat.lt_of_lt_of_le (by have := World.block_lt_of_cell? _ _ hw291_1; first | rwa [add_block] at this | exact this) GW303.out))) _).trans (((cell_far (p := ⟨gb303, _, none⟩) (by first | exact Nat.ne_of_lt (Nat.lt_of_lt_of_le (by have := World.block_lt_of_cell? _ _ hw291_1; first | rwa [add_block] at this | exact this) GW303.out) | (rw [add_block]; exact Nat.ne_of_lt (Nat.lt_of_lt_of_le (by have := World.block_lt_of_cell? _ _ hw291_1; first | rwa [add_block] at this | exact this) GW303.out)) | (show (Addr.add _ _).block ≠ _; rw [add_block]; exact Nat.ne_of_lt (Nat.lt_of_lt_of_le (by have := World.block_lt_of_cell? _ _ hw291_1; first | rwa [add_block] at this | exact this) GW303.out)) | (dsimp only; exact Nat.ne_of_lt (Nat.lt_of_lt_of_le (by have := World.block_lt_of_cell? _ _ hw291_1; first | rwa [add_block] at this | exact this) GW303.out))) _).trans (((cell_far (p := ⟨gb303, _, none⟩) (by first | exact Nat.ne_of_lt (Nat.lt_of_lt_of_le (by have := World.block_lt_of_cell? _ _ hw291_1; first | rwa [add_block] at this | exact this) GW303.out) | (rw [add_block]; exact Nat.ne_of_lt (Nat.lt_of_lt_of_le (by have := World.block_lt_of_cell? _ _ hw291_1; first | rwa [add_block] at this | exact this) GW303.out)) | (show (Addr.add _ _).block ≠ _; rw [add_block]; exact Nat.ne_of_lt (Nat.lt_of_lt_of_le (by have := World.block_lt_of_cell? _ _ hw291_1; first | rwa [add_block] at this | exact this) GW303.out)) | (dsimp only; exact Nat.ne_of_lt (Nat.lt_of_lt_of_le (by have := World.block_lt_of_cell? _ _ hw291_1; first | rwa [add_block] at this | exact this) GW303.out))) _).trans (((cell_far (p := ⟨gb303, _, none⟩) (by first | exact Nat.ne_of_lt (Nat.lt_of_lt_of_le (by have := World.block_lt_of_cell? _ _ hw291_1; first | rwa [add_block] at this | exact this) GW303.out) | (rw [add_block]; exact Nat.ne_of_lt (Nat.lt_of_lt_of_le (by have := World.block_lt_of_cell? _ _ hw291_1; first | rwa [add_block] at this | exact this) GW303.out)) | (show (Addr.add _ _).block ≠ _; rw [add_block]; exact Nat.ne_of_lt (Nat.lt_of_lt_of_le (by have := World.block_lt_of_cell? _ _ hw291_1; first | rwa [add_block] at this | exact this) GW303.out)) | (dsimp only; exact Nat.ne_of_lt (Nat.lt_of_lt_of_le (by have := World.block_lt_of_cell? _ _ hw291_1; first | rwa [add_block] at this | exact this) GW303.out))) _).trans (((cell_far (p := ⟨gb303, _, none⟩) (by first | exact Nat.ne_of_lt (Nat.lt_of_lt_of_le (by have := World.block_lt_of_cell? _ _ hw291_1; first | rwa [add_block] at this | exact this) GW303.out) | (rw [add_block]; exact Nat.ne_of_lt (Nat.lt_of_lt_of_le (by have := World.block_lt_of_cell? _ _ hw291_1; first | rwa [add_block] at this | exact this) GW303.out)) | (show (Addr.add _ _).block ≠ _; rw [add_block]; exact Nat.ne_of_lt (Nat.lt_of_lt_of_le (by have := World.block_lt_of_cell? _ _ hw291_1; first | rwa [add_block] at this | exact this) GW303.out)) | (dsimp only; exact Nat.ne_of_lt (Nat.lt_of_lt_of_le (by have := World.block_lt_of_cell? _ _ hw291_1; first | rwa [add_block] at this | exact this) GW303.out))) _).trans (hHeld.2.2.1)))))))))), ((cell_far (p := ⟨gb303, _, none⟩) (by first | exact Nat.ne_of_lt (Nat.lt_of_lt_of_le (by have := World.block_lt_of_cell? _ _ hw291_2; first | rwa [add_block] at this | exact this) GW303.out) | (rw [add_block]; exact Nat.ne_of_lt (Nat.lt_of_lt_of_le (by have := World.block_lt_of_cell? _ _ hw291_2; first | rwa [add_block] at this | exact this) GW303.out)) | (show (Addr.add _ _).block ≠ _; rw [add_block]; exact Nat.ne_of_lt (Nat.lt_of_lt_of_le (by have := World.block_lt_of_cell? _ _ hw291_2; first | rwa [add_block] at this | exact this) GW303.out)) | (dsimp only; exact Nat.ne_of_lt (Nat.lt_of_lt_of_le (by have := World.block_lt_of_cell? _ _ hw291_2; first | rwa [add_block] at this | exact this) GW303.out))) _).trans (((cell_far (p := ⟨gb303, _, none⟩) (by first | exact Nat.ne_of_lt (Nat.lt_of_lt_of_le (by have := World.block_lt_of_cell? _ _ hw291_2; first | rwa [add_block] at this | exact this) GW303.out) | (rw [add_block]; exact Nat.ne_of_lt (Nat.lt_of_lt_of_le (by have := World.block_lt_of_cell? _ _ hw291_2; first | rwa [add_block] at this | exact this) GW303.out)) | (show (Addr.add _ _).block ≠ _; rw [add_block]; exact Nat.ne_of_lt (Nat.lt_of_lt_of_le (by have := World.block_lt_of_cell? _ _ hw291_2; first | rwa [add_block] at this | exact this) GW303.out)) | (dsimp only; exact Nat.ne_of_lt (Nat.lt_of_lt_of_le (by have := World.block_lt_of_cell? _ _ hw291_2; first | rwa [add_block] at this | exact this) GW303.out))) _).trans (((cell_far (p := ⟨gb303, _, none⟩) (by first | exact Nat.ne_of_lt (Nat.lt_of_lt_of_le (by have := World.block_lt_of_cell? _ _ hw291_2; first | rwa [add_block] at this | exact this) GW303.out) | (rw [add_block]; exact Nat.ne_of_lt (Nat.lt_of_lt_of_le (by have := World.block_lt_of_cell? _ _ hw291_2; first | rwa [add_block] at this | exact this) GW303.out)) | (show (Addr.add _ _).block ≠ _; rw [add_block]; exact Nat.ne_of_lt (Nat.lt_of_lt_of_le (by have := World.block_lt_of_cell? _ _ hw291_2; first | rwa [add_block] at this | exact this) GW303.out)) | (dsimp only; exact Nat.ne_of_lt (Nat.lt_of_lt_of_le (by have := World.block_lt_of_cell? _ _ hw291_2; first | rwa [add_block] at this | exact this) GW303.out))) _).trans (((cell_far (p := ⟨gb303, _, none⟩) (by first | exact Nat.ne_of_lt (Nat.lt_of_lt_of_le (by have := World.block_lt_of_cell? _ _ hw291_2; first | rwa [add_block] at this | exact this) GW303.out) | (rw [add_block]; exact Nat.ne_of_lt (Nat.lt_of_lt_of_le (by have := World.block_lt_of_cell? _ _ hw291_2; first | rwa [add_block] at this | exact this) GW303.out)) | (show (Addr.add _ _).block ≠ _; rw [add_block]; exact Nat.ne_of_lt (Nat.lt_of_lt_of_le (by have := World.block_lt_of_cell? _ _ hw291_2; first | rwa [add_block] at this | exact this) GW303.out)) | (dsimp only; exact Nat.ne_of_lt (Nat.lt_of_lt_of_le (by have := World.block_lt_of_cell? _ _ hw291_2; first | rwa [add_block] at this | exact this) GW303.out))) _).trans (((cell_far (p := ⟨gb303, _, none⟩) (by first | exact Nat.ne_of_lt (Nat.lt_of_lt_of_le (by have := World.block_lt_of_cell? _ _ hw291_2; first | rwa [add_block] at this | exact this) GW303.out) | (rw [add_block]; exact Nat.ne_of_lt (Nat.lt_of_lt_of_le (by have := World.block_lt_of_cell? _ _ hw291_2; first | rwa [add_block] at this | exact this) GW303.out)) | (show (Addr.add _ _).block ≠ _; rw [add_block]; exact Nat.ne_of_lt (Nat.lt_of_lt_of_le (by have := World.block_lt_of_cell? _ _ hw291_2; first | rwa [add_block] at this | exact this) GW303.out)) | (dsimp only; exact Nat.ne_of_lt (Nat.lt_of_lt_of_le (by have := World.block_lt_of_cell? _ _ hw291_2; first | rwa [add_block] at this | exact this) GW303.out))) _).trans (hHeld.2.2.2.1)))))))))), ((cell_far (p := ⟨gb303, _, none⟩) (by first | exact Nat.ne_of_lt (Nat.lt_of_lt_of_le (by have := World.block_lt_of_cell? _ _ hw291_3; first | rwa [add_block] at this | exact this) GW303.out) | (rw [add_block]; exact Nat.ne_of_lt (Nat.lt_of_lt_of_le (by have := World.block_lt_of_cell? _ _ hw291_3; first | rwa [add_block] at this | exact this) GW303.out)) | (show (Addr.add _ _).block ≠ _; rw [add_block]; exact Nat.ne_of_lt (Nat.lt_of_lt_of_le (by have := World.block_lt_of_cell? _ _ hw291_3; first | rwa [add_block] at this | exact this) GW303.out)) | (dsimp only; exact Nat.ne_of_lt (Nat.lt_of_lt_of_le (by have := World.block_lt_of_cell? _ _ hw291_3; first | rwa [add_block] at this | exact this) GW303.out))) _).trans (((cell_far (p := ⟨gb303, _, none⟩) (by first | exact Nat.ne_of_lt (Nat.lt_of_lt_of_le (by have := World.block_lt_of_cell? _ _ hw291_3; first | rwa [add_block] at this | exact this) GW303.out) | (rw [add_block]; exact Nat.ne_of_lt (Nat.lt_of_lt_of_le (by have := World.block_lt_of_cell? _ _ hw291_3; first | rwa [add_block] at this | exact this) GW303.out)) | (show (Addr.add _ _).block ≠ _; rw [add_block]; exact Nat.ne_of_lt (Nat.lt_of_lt_of_le (by have := World.block_lt_of_cell? _ _ hw291_3; first | rwa [add_block] at this | exact this) GW303.out)) | (dsimp only; exact Nat.ne_of_lt (Nat.lt_of_lt_of_le (by have := World.block_lt_of_cell? _ _ hw291_3; first | rwa [add_block] at this | exact this) GW303.out))) _).trans (((cell_far (p := ⟨gb303, _, none⟩) (by first | exact Nat.ne_of_lt (Nat.lt_of_lt_of_le (by have := World.block_lt_of_cell? _ _ hw291_3; first | rwa [add_block] at this | exact this) GW303.out) | (rw [add_block]; exact Nat.ne_of_lt (Nat.lt_of_lt_of_le (by have := World.block_lt_of_cell? _ _ hw291_3; first | rwa [add_block] at this | exact this) GW303.out)) | (show (Addr.add _ _).block ≠ _; rw [add_block]; exact Nat.ne_of_lt (Nat.lt_of_lt_of_le (by have := World.block_lt_of_cell? _ _ hw291_3; first | rwa [add_block] at this | exact this) GW303.out)) | (dsimp only; exact Nat.ne_of_lt (Nat.lt_of_lt_of_le (by have := World.block_lt_of_cell? _ _ hw291_3; first | rwa [add_block] at this | exact this) GW303.out))) _).trans (((cell_far (p := ⟨gb303, _, none⟩) (by first | exact Nat.ne_of_lt (Nat.lt_of_lt_of_le (by have := World.block_lt_of_cell? _ _ hw291_3; first | rwa [add_block] at this | exact this) GW303.out) | (rw [add_block]; exact Nat.ne_of_lt (Nat.lt_of_lt_of_le (by have := World.block_lt_of_cell? _ _ hw291_3; first | rwa [add_block] at this | exact this) GW303.out)) | (show (Addr.add _ _).block ≠ _; rw [add_block]; exact Nat.ne_of_lt (Nat.lt_of_lt_of_le (by have := World.block_lt_of_cell? _ _ hw291_3; first | rwa [add_block] at this | exact this) GW303.out)) | (dsimp only; exact Nat.ne_of_lt (Nat.lt_of_lt_of_le (by have := World.block_lt_of_cell? _ _ hw291_3; first | rwa [add_block] at this | exact this) GW303.out))) _).trans (((cell_far (p := ⟨gb303, _, none⟩) (by first | exact Nat.ne_of_lt (Nat.lt_of_lt_of_le (by have := World.block_lt_of_cell? _ _ hw291_3; first | rwa [add_block] at this | exact this) GW303.out) | (rw [add_block]; exact Nat.ne_of_lt (Nat.lt_of_lt_of_le (by have := World.block_lt_of_cell? _ _ hw291_3; first | rwa [add_block] at this | exact this) GW303.out)) | (show (Addr.add _ _).block ≠ _; rw [add_block]; exact Nat.ne_of_lt (Nat.lt_of_lt_of_le (by have := World.block_lt_of_cell? _ _ hw291_3; first | rwa [add_block] at this | exact this) GW303.out)) | (dsimp only; exact Nat.ne_of_lt (Nat.lt_of_lt_of_le (by have := World.block_lt_of_cell? _ _ hw291_3; first | rwa [add_block] at this | exact this) GW303.out))) _).trans (hHeld.2.2.2.2.1)))))))))), ((cell_far (p := ⟨gb303, _, none⟩) (by first | exact Nat.ne_of_lt (Nat.lt_of_lt_of_le (by have := World.block_lt_of_cell? _ _ hw291_4; first | rwa [add_block] at this | exact this) GW303.out) | (rw [add_block]; exact Nat.ne_of_lt (Nat.lt_of_lt_of_le (by have := World.block_lt_of_cell? _ _ hw291_4; first | rwa [add_block] at this | exact this) GW303.out)) | (show (Addr.add _ _).block ≠ _; rw [add_block]; exact Nat.ne_of_lt (Nat.lt_of_lt_of_le (by have := World.block_lt_of_cell? _ _ hw291_4; first | rwa [add_block] at this | exact this) GW303.out)) | (dsimp only; exact Nat.ne_of_lt (Nat.lt_of_lt_of_le (by have := World.block_lt_of_cell? _ _ hw291_4; first | rwa [add_block] at this | exact this) GW303.out))) _).trans (((cell_far (p := ⟨gb303, _, none⟩) (by first | exact Nat.ne_of_lt (Nat.lt_of_lt_of_le (by have := World.block_lt_of_cell? _ _ hw291_4; first | rwa [add_block] at this | exact this) GW303.out) | (rw [add_block]; exact Nat.ne_of_lt (Nat.lt_of_lt_of_le (by have := World.block_lt_of_cell? _ _ hw291_4; first | rwa [add_block] at this | exact this) GW303.out)) | (show (Addr.add _ _).block ≠ _; rw [add_block]; exact Nat.ne_of_lt (Nat.lt_of_lt_of_le (by have := World.block_lt_of_cell? _ _ hw291_4; first | rwa [add_block] at this | exact this) GW303.out)) | (dsimp only; exact Nat.ne_of_lt (Nat.lt_of_lt_of_le (by have := World.block_lt_of_cell? _ _ hw291_4; first | rwa [add_block] at this | exact this) GW303.out))) _).trans (((cell_far (p := ⟨gb303, _, none⟩) (by first | exact Nat.ne_of_lt (Nat.lt_of_lt_of_le (by have := World.block_lt_of_cell? _ _ hw291_4; first | rwa [add_block] at this | exact this) GW303.out) | (rw [add_block]; exact Nat.ne_of_lt (Nat.lt_of_lt_of_le (by have := World.block_lt_of_cell? _ _ hw291_4; first | rwa [add_block] at this | exact this) GW303.out)) | (show (Addr.add _ _).block ≠ _; rw [add_block]; exact Nat.ne_of_lt (Nat.lt_of_lt_of_le (by have := World.block_lt_of_cell? _ _ hw291_4; first | rwa [add_block] at this | exact this) GW303.out)) | (dsimp only; exact Nat.ne_of_lt (Nat.lt_of_lt_of_le (by have := World.block_lt_of_cell? _ _ hw291_4; first | rwa [add_block] at this | exact this) GW303.out))) _).trans (((cell_far (p := ⟨gb303, _, none⟩) (by first | exact Nat.ne_of_lt (Nat.lt_of_lt_of_le (by have := World.block_lt_of_cell? _ _ hw291_4; first | rwa [add_block] at this | exact this) GW303.out) | (rw [add_block]; exact Nat.ne_of_lt (Nat.lt_of_lt_of_le (by have := World.block_lt_of_cell? _ _ hw291_4; first | rwa [add_block] at this | exact this) GW303.out)) | (show (Addr.add _ _).block ≠ _; rw [add_block]; exact Nat.ne_of_lt (Nat.lt_of_lt_of_le (by have := World.block_lt_of_cell? _ _ hw291_4; first | rwa [add_block] at this | exact this) GW303.out)) | (dsimp only; exact Nat.ne_of_lt (Nat.lt_of_lt_of_le (by have := World.block_lt_of_cell? _ _ hw291_4; first | rwa [add_block] at this | exact this) GW303.out))) _).trans (((cell_far (p := ⟨gb303, _, none⟩) (by first | exact Nat.ne_of_lt (Nat.lt_of_lt_of_le (by have := World.block_lt_of_cell? _ _ hw291_4; first | rwa [add_block] at this | exact this) GW303.out) | (rw [add_block]; exact Nat.ne_of_lt (Nat.lt_of_lt_of_le (by have := World.block_lt_of_cell? _ _ hw291_4; first | rwa [add_block] at this | exact this) GW303.out)) | (show (Addr.add _ _).block ≠ _; rw [add_block]; exact Nat.ne_of_lt (Nat.lt_of_lt_of_le (by have := World.block_lt_of_cell? _ _ hw291_4; first | rwa [add_block] at this | exact this) GW303.out)) | (dsimp only; exact Nat.ne_of_lt (Nat.lt_of_lt_of_le (by have := World.block_lt_of_cell? _ _ hw291_4; first | rwa [add_block] at this | exact this) GW303.out))) _).trans (hHeld.2.2.2.2.2.1)))))))))), ((cell_far (p := ⟨gb303, _, none⟩) (by first | exact Nat.ne_of_lt (Nat.lt_of_lt_of_le (by have := World.block_lt_of_cell? _ _ hw291_5; first | rwa [add_block] at this | exact this) GW303.out) | (rw [add_block]; exact Nat.ne_of_lt (Nat.lt_of_lt_of_le (by have := World.block_lt_of_cell? _ _ hw291_5; first | rwa [add_block] at this | exact this) GW303.out)) | (show (Addr.add _ _).block ≠ _; rw [add_block]; exact Nat.ne_of_lt (Nat.lt_of_lt_of_le (by have := World.block_lt_of_cell? _ _ hw291_5; first | rwa [add_block] at this | exact this) GW303.out)) | (dsimp only; exact Nat.ne_of_lt (Nat.lt_of_lt_of_le (by have := World.block_lt_of_cell? _ _ hw291_5; first | rwa [add_block] at this | exact this) GW303.out))) _).trans (((cell_far (p := ⟨gb303, _, none⟩) (by first | exact Nat.ne_of_lt (Nat.lt_of_lt_of_le (by have := World.block_lt_of_cell? _ _ hw291_5; first | rwa [add_block] at this | exact this) GW303.out) | (rw [add_block]; exact Nat.ne_of_lt (Nat.lt_of_lt_of_le (by have := World.block_lt_of_cell? _ _ hw291_5; first | rwa [add_block] at this | exact this) GW303.out)) | (show (Addr.add _ _).block ≠ _; rw [add_block]; exact Nat.ne_of_lt (Nat.lt_of_lt_of_le (by have := World.block_lt_of_cell? _ _ hw291_5; first | rwa [add_block] at this | exact this) GW303.out)) | (dsimp only; exact Nat.ne_of_lt (Nat.lt_of_lt_of_le (by have := World.block_lt_of_cell? _ _ hw291_5; first | rwa [add_block] at this | exact this) GW303.out))) _).trans (((cell_far (p := ⟨gb303, _, none⟩) (by first | exact Nat.ne_of_lt (Nat.lt_of_lt_of_le (by have := World.block_lt_of_cell? _ _ hw291_5; first | rwa [add_block] at this | exact this) GW303.out) | (rw [add_block]; exact Nat.ne_of_lt (Nat.lt_of_lt_of_le (by have := World.block_lt_of_cell? _ _ hw291_5; first | rwa [add_block] at this | exact this) GW303.out)) | (show (Addr.add _ _).block ≠ _; rw [add_block]; exact Nat.ne_of_lt (Nat.lt_of_lt_of_le (by have := World.block_lt_of_cell? _ _ hw291_5; first | rwa [add_block] at this | exact this) GW303.out)) | (dsimp only; exact Nat.ne_of_lt (Nat.lt_of_lt_of_le (by have := World.block_lt_of_cell? _ _ hw291_5; first | rwa [add_block] at this | exact this) GW303.out))) _).trans (((cell_far (p := ⟨gb303, _, none⟩) (by first | exact Nat.ne_of_lt (Nat.lt_of_lt_of_le (by have := World.block_lt_of_cell? _ _ hw291_5; first | rwa [add_block] at this | exact this) GW303.out) | (rw [add_block]; exact Nat.ne_of_lt (Nat.lt_of_lt_of_le (by have := World.block_lt_of_cell? _ _ hw291_5; first | rwa [add_block] at this | exact this) GW303.out)) | (show (Addr.add _ _).block ≠ _; rw [add_block]; exact Nat.ne_of_lt (Nat.lt_of_lt_of_le (by have := World.block_lt_of_cell? _ _ hw291_5; first | rwa [add_block] at this | exact this) GW303.out)) | (dsimp only; exact Nat.ne_of_lt (Nat.lt_of_lt_of_le (by have := World.block_lt_of_cell? _ _ hw291_5; first | rwa [add_block] at this | exact this) GW303.out))) _).trans (((cell_far (p := ⟨gb303, _, none⟩) (by first | exact Nat.ne_of_lt (Nat.lt_of_lt_of_le (by have := World.block_lt_of_cell? _ _ hw291_5; first | rwa [add_block] at this | exact this) GW303.out) | (rw [add_block]; exact Nat.ne_of_lt (Nat.lt_of_lt_of_le (by have := World.block_lt_of_cell? _ _ hw291_5; first | rwa [add_block] at this | exact this) GW303.out)) | (show (Addr.add _ _).block ≠ _; rw [add_block]; exact Nat.ne_of_lt (Nat.lt_of_lt_of_le (by have := World.block_lt_of_cell? _ _ hw291_5; first | rwa [add_block] at this | exact this) GW303.out)) | (dsimp only; exact Nat.ne_of_lt (Nat.lt_of_lt_of_le (by have := World.block_lt_of_cell? _ _ hw291_5; first | rwa [add_block] at this | exact this) GW303.out))) _).trans (hHeld.2.2.2.2.2.2.1)))))))))), ((cell_far (p := ⟨gb303, _, none⟩) (by first | exact Nat.ne_of_lt (Nat.lt_of_lt_of_le (by have := World.block_lt_of_cell? _ _ hw291_6; first | rwa [add_block] at this | exact this) GW303.out) | (rw [add_block]; exact Nat.ne_of_lt (Nat.lt_of_lt_of_le (by have := World.block_lt_of_cell? _ _ hw291_6; first | rwa [add_block] at this | exact this) GW303.out)) | (show (Addr.add _ _).block ≠ _; rw [add_block]; exact Nat.ne_of_lt (Nat.lt_of_lt_of_le (by have := World.block_lt_of_cell? _ _ hw291_6; first | rwa [add_block] at this | exact this) GW303.out)) | (dsimp only; exact Nat.ne_of_lt (Nat.lt_of_lt_of_le (by have := World.block_lt_of_cell? _ _ hw291_6; first | rwa [add_block] at this | exact this) GW303.out))) _).trans (((cell_far (p := ⟨gb303, _, none⟩) (by first | exact Nat.ne_of_lt (Nat.lt_of_lt_of_le (by have := World.block_lt_of_cell? _ _ hw291_6; first | rwa [add_block] at this | exact this) GW303.out) | (rw [add_block]; exact Nat.ne_of_lt (Nat.lt_of_lt_of_le (by have := World.block_lt_of_cell? _ _ hw291_6; first | rwa [add_block] at this | exact this) GW303.out)) | (show (Addr.add _ _).block ≠ _; rw [add_block]; exact Nat.ne_of_lt (Nat.lt_of_lt_of_le (by have := World.block_lt_of_cell? _ _ hw291_6; first | rwa [add_block] at this | exact this) GW303.out)) | (dsimp only; exact Nat.ne_of_lt (Nat.lt_of_lt_of_le (by have := World.block_lt_of_cell? _ _ hw291_6; first | rwa [add_block] at this | exact this) GW303.out))) _).trans (((cell_far (p := ⟨gb303, _, none⟩) (by first | exact Nat.ne_of_lt (Nat.lt_of_lt_of_le (by have := World.block_lt_of_cell? _ _ hw291_6; first | rwa [add_block] at this | exact this) GW303.out) | (rw [add_block]; exact Nat.ne_of_lt (Nat.lt_of_lt_of_le (by have := World.block_lt_of_cell? _ _ hw291_6; first | rwa [add_block] at this | exact this) GW303.out)) | (show (Addr.add _ _).block ≠ _; rw [add_block]; exact Nat.ne_of_lt (Nat.lt_of_lt_of_le (by have := World.block_lt_of_cell? _ _ hw291_6; first | rwa [add_block] at this | exact this) GW303.out)) | (dsimp only; exact Nat.ne_of_lt (Nat.lt_of_lt_of_le (by have := World.block_lt_of_cell? _ _ hw291_6; first | rwa [add_block] at this | exact this) GW303.out))) _).trans (((cell_far (p := ⟨gb303, _, none⟩) (by first | exact Nat.ne_of_lt (Nat.lt_of_lt_of_le (by have := World.block_lt_of_cell? _ _ hw291_6; first | rwa [add_block] at this | exact this) GW303.out) | (rw [add_block]; exact Nat.ne_of_lt (Nat.lt_of_lt_of_le (by have := World.block_lt_of_cell? _ _ hw291_6; first | rwa [add_block] at this | exact this) GW303.out)) | (show (Addr.add _ _).block ≠ _; rw [add_block]; exact Nat.ne_of_lt (Nat.lt_of_lt_of_le (by have := World.block_lt_of_cell? _ _ hw291_6; first | rwa [add_block] at this | exact this) GW303.out)) | (dsimp only; exact Nat.ne_of_lt (Nat.lt_of_lt_of_le (by have := World.block_lt_of_cell? _ _ hw291_6; first | rwa [add_block] at this | exact this) GW303.out))) _).trans (((cell_far (p := ⟨gb303, _, none⟩) (by first | exact Nat.ne_of_lt (Nat.lt_of_lt_of_le (by have := World.block_lt_of_cell? _ _ hw291_6; first | rwa [add_block] at this | exact this) GW303.out) | (rw [add_block]; exact Nat.ne_of_lt (Nat.lt_of_lt_of_le (by have := World.block_lt_of_cell? _ _ hw291_6; first | rwa [add_block] at this | exact this) GW303.out)) | (show (Addr.add _ _).block ≠ _; rw [add_block]; exact Nat.ne_of_lt (Nat.lt_of_lt_of_le (by have := World.block_lt_of_cell? _ _ hw291_6; first | rwa [add_block] at this | exact this) GW303.out)) | (dsimp only; exact Nat.ne_of_lt (Nat.lt_of_lt_of_le (by have := World.block_lt_of_cell? _ _ hw291_6; first | rwa [add_block] at this | exact this) GW303.out))) _).trans (hHeld.2.2.2.2.2.2.2.1)))))))))), ((cell_far (p := ⟨gb303, _, none⟩) (by first | exact Nat.ne_of_lt (Nat.lt_of_lt_of_le (by have := World.block_lt_of_cell? _ _ hw291_7; first | rwa [add_block] at this | exact this) GW303.out) | (rw [add_block]; exact Nat.ne_of_lt (Nat.lt_of_lt_of_le (by have := World.block_lt_of_cell? _ _ hw291_7; first | rwa [add_block] at this | exact this) GW303.out)) | (show (Addr.add _ _).block ≠ _; rw [add_block]; exact Nat.ne_of_lt (Nat.lt_of_lt_of_le (by have := World.block_lt_of_cell? _ _ hw291_7; first | rwa [add_block] at this | exact this) GW303.out)) | (dsimp only; exact Nat.ne_of_lt (Nat.lt_of_lt_of_le (by have := World.block_lt_of_cell? _ _ hw291_7; first | rwa [add_block] at this | exact this) GW303.out))) _).trans (((cell_far (p := ⟨gb303, _, none⟩) (by first | exact Nat.ne_of_lt (Nat.lt_of_lt_of_le (by have := World.block_lt_of_cell? _ _ hw291_7; first | rwa [add_block] at this | exact this) GW303.out) | (rw [add_block]; exact Nat.ne_of_lt (Nat.lt_of_lt_of_le (by have := World.block_lt_of_cell? _ _ hw291_7; first | rwa [add_block] at this | exact this) GW303.out)) | (show (Addr.add _ _).block ≠ _; rw [add_block]; exact Nat.ne_of_lt (Nat.lt_of_lt_of_le (by have := World.block_lt_of_cell? _ _ hw291_7; first | rwa [add_block] at this | exact this) GW303.out)) | (dsimp only; exact Nat.ne_of_lt (Nat.lt_of_lt_of_le (by have := World.block_lt_of_cell? _ _ hw291_7; first | rwa [add_block] at this | exact this) GW303.out))) _).trans (((cell_far (p := ⟨gb303, _, none⟩) (by first | exact Nat.ne_of_lt (Nat.lt_of_lt_of_le (by have := World.block_lt_of_cell? _ _ hw291_7; first | rwa [add_block] at this | exact this) GW303.out) | (rw [add_block]; exact Nat.ne_of_lt (Nat.lt_of_lt_of_le (by have := World.block_lt_of_cell? _ _ hw291_7; first | rwa [add_block] at this | exact this) GW303.out)) | (show (Addr.add _ _).block ≠ _; rw [add_block]; exact Nat.ne_of_lt (Nat.lt_of_lt_of_le (by have := World.block_lt_of_cell? _ _ hw291_7; first | rwa [add_block] at this | exact this) GW303.out)) | (dsimp only; exact Nat.ne_of_lt (Nat.lt_of_lt_of_le (by have := World.block_lt_of_cell? _ _ hw291_7; first | rwa [add_block] at this | exact this) GW303.out))) _).trans (((cell_far (p := ⟨gb303, _, none⟩) (by first | exact Nat.ne_of_lt (Nat.lt_of_lt_of_le (by have := World.block_lt_of_cell? _ _ hw291_7; first | rwa [add_block] at this | exact this) GW303.out) | (rw [add_block]; exact Nat.ne_of_lt (Nat.lt_of_lt_of_le (by have := World.block_lt_of_cell? _ _ hw291_7; first | rwa [add_block] at this | exact this) GW303.out)) | (show (Addr.add _ _).block ≠ _; rw [add_block]; exact Nat.ne_of_lt (Nat.lt_of_lt_of_le (by have := World.block_lt_of_cell? _ _ hw291_7; first | rwa [add_block] at this | exact this) GW303.out)) | (dsimp only; exact Nat.ne_of_lt (Nat.lt_of_lt_of_le (by have := World.block_lt_of_cell? _ _ hw291_7; first | rwa [add_block] at this | exact this) GW303.out))) _).trans (((cell_far (p := ⟨gb303, _, none⟩) (by first | exact Nat.ne_of_lt (Nat.lt_of_lt_of_le (by have := World.block_lt_of_cell? _ _ hw291_7; first | rwa [add_block] at this | exact this) GW303.out) | (rw [add_block]; exact Nat.ne_of_lt (Nat.lt_of_lt_of_le (by have := World.block_lt_of_cell? _ _ hw291_7; first | rwa [add_block] at this | exact this) GW303.out)) | (show (Addr.add _ _).block ≠ _; rw [add_block]; exact Nat.ne_of_lt (Nat.lt_of_lt_of_le (by have := World.block_lt_of_cell? _ _ hw291_7; first | rwa [add_block] at this | exact this) GW303.out)) | (dsimp only; exact Nat.ne_of_lt (Nat.lt_of_lt_of_le (by have := World.block_lt_of_cell? _ _ hw291_7; first | rwa [add_block] at this | exact this) GW303.out))) _).trans (hHeld.2.2.2.2.2.2.2.2.1)))))))))), ((cell_far (p := ⟨gb303, _, none⟩) (by first | exact Nat.ne_of_lt (Nat.lt_of_lt_of_le (by have := World.block_lt_of_cell? _ _ hw291_8; first | rwa [add_block] at this | exact this) GW303.out) | (rw [add_block]; exact Nat.ne_of_lt (Nat.lt_of_lt_of_le (by have := World.block_lt_of_cell? _ _ hw291_8; first | rwa [add_block] at this | exact this) GW303.out)) | (show (Addr.add _ _).block ≠ _; rw [add_block]; exact Nat.ne_of_lt (Nat.lt_of_lt_of_le (by have := World.block_lt_of_cell? _ _ hw291_8; first | rwa [add_block] at this | exact this) GW303.out)) | (dsimp only; exact Nat.ne_of_lt (Nat.lt_of_lt_of_le (by have := World.block_lt_of_cell? _ _ hw291_8; first | rwa [add_block] at this | exact this) GW303.out))) _).trans (((cell_far (p := ⟨gb303, _, none⟩) (by first | exact Nat.ne_of_lt (Nat.lt_of_lt_of_le (by have := World.block_lt_of_cell? _ _ hw291_8; first | rwa [add_block] at this | exact this) GW303.out) | (rw [add_block]; exact Nat.ne_of_lt (Nat.lt_of_lt_of_le (by have := World.block_lt_of_cell? _ _ hw291_8; first | rwa [add_block] at this | exact this) GW303.out)) | (show (Addr.add _ _).block ≠ _; rw [add_block]; exact Nat.ne_of_lt (Nat.lt_of_lt_of_le (by have := World.block_lt_of_cell? _ _ hw291_8; first | rwa [add_block] at this | exact this) GW303.out)) | (dsimp only; exact Nat.ne_of_lt (Nat.lt_of_lt_of_le (by have := World.block_lt_of_cell? _ _ hw291_8; first | rwa [add_block] at this | exact this) GW303.out))) _).trans (((cell_far (p := ⟨gb303, _, none⟩) (by first | exact Nat.ne_of_lt (Nat.lt_of_lt_of_le (by have := World.block_lt_of_cell? _ _ hw291_8; first | rwa [add_block] at this | exact this) GW303.out) | (rw [add_block]; exact Nat.ne_of_lt (Nat.lt_of_lt_of_le (by have := World.block_lt_of_cell? _ _ hw291_8; first | rwa [add_block] at this | exact this) GW303.out)) | (show (Addr.add _ _).block ≠ _; rw [add_block]; exact Nat.ne_of_lt (Nat.lt_of_lt_of_le (by have := World.block_lt_of_cell? _ _ hw291_8; first | rwa [add_block] at this | exact this) GW303.out)) | (dsimp only; exact Nat.ne_of_lt (Nat.lt_of_lt_of_le (by have := World.block_lt_of_cell? _ _ hw291_8; first | rwa [add_block] at this | exact this) GW303.out))) _).trans (((cell_far (p := ⟨gb303, _, none⟩) (by first | exact Nat.ne_of_lt (Nat.lt_of_lt_of_le (by have := World.block_lt_of_cell? _ _ hw291_8; first | rwa [add_block] at this | exact this) GW303.out) | (rw [add_block]; exact Nat.ne_of_lt (Nat.lt_of_lt_of_le (by have := World.block_lt_of_cell? _ _ hw291_8; first | rwa [add_block] at this | exact this) GW303.out)) | (show (Addr.add _ _).block ≠ _; rw [add_block]; exact Nat.ne_of_lt (Nat.lt_of_lt_of_le (by have := World.block_lt_of_cell? _ _ hw291_8; first | rwa [add_block] at this | exact this) GW303.out)) | (dsimp only; exact Nat.ne_of_lt (Nat.lt_of_lt_of_le (by have := World.block_lt_of_cell? _ _ hw291_8; first | rwa [add_block] at this | exact this) GW303.out))) _).trans (((cell_far (p := ⟨gb303, _, none⟩) (by first | exact Nat.ne_of_lt (Nat.lt_of_lt_of_le (by have := World.block_lt_of_cell? _ _ hw291_8; first | rwa [add_block] at this | exact this) GW303.out) | (rw [add_block]; exact Nat.ne_of_lt (Nat.lt_of_lt_of_le (by have := World.block_lt_of_cell? _ _ hw291_8; first | rwa [add_block] at this | exact this) GW303.out)) | (show (Addr.add _ _).block ≠ _; rw [add_block]; exact Nat.ne_of_lt (Nat.lt_of_lt_of_le (by have := World.block_lt_of_cell? _ _ hw291_8; first | rwa [add_block] at this | exact this) GW303.out)) | (dsimp only; exact Nat.ne_of_lt (Nat.lt_of_lt_of_le (by have := World.block_lt_of_cell? _ _ hw291_8; first | rwa [add_block] at this | exact this) GW303.out))) _).trans (hHeld.2.2.2.2.2.2.2.2.2.1)))))))))), ((cell_far (p := ⟨gb303, _, none⟩) (by first | exact Kd.own_blk (Kd.R_ne HO_9.out BK303.out (by decide)) | (rw [add_block]; exact Kd.own_blk (Kd.R_ne HO_9.out BK303.out (by decide))) | (show (Addr.add _ _).block ≠ _; rw [add_block]; exact Kd.own_blk (Kd.R_ne HO_9.out BK303.out (by decide))) | (dsimp only; exact Kd.own_blk (Kd.R_ne HO_9.out BK303.out (by decide)))) _).trans (((cell_far (p := ⟨gb303, _, none⟩) (by first | exact Kd.own_blk (Kd.R_ne HO_9.out BK303.out (by decide)) | (rw [add_block]; exact Kd.own_blk (Kd.R_ne HO_9.out BK303.out (by decide))) | (show (Addr.add _ _).block ≠ _; rw [add_block]; exact Kd.own_blk (Kd.R_ne HO_9.out BK303.out (by decide))) | (dsimp only; exact Kd.own_blk (Kd.R_ne HO_9.out BK303.out (by decide)))) _).trans (((cell_far (p := ⟨gb303, _, none⟩) (by first | exact Kd.own_blk (Kd.R_ne HO_9.out BK303.out (by decide)) | (rw [add_block]; exact Kd.own_blk (Kd.R_ne HO_9.out BK303.out (by decide))) | (show (Addr.add _ _).block ≠ _; rw [add_block]; exact Kd.own_blk (Kd.R_ne HO_9.out BK303.out (by decide))) | (dsimp only; exact Kd.own_blk (Kd.R_ne HO_9.out BK303.out (by decide)))) _).trans (((cell_far (p := ⟨gb303, _, none⟩) (by first | exact Kd.own_blk (Kd.R_ne HO_9.out BK303.out (by decide)) | (rw [add_block]; exact Kd.own_blk (Kd.R_ne HO_9.out BK303.out (by decide))) | (show (Addr.add _ _).block ≠ _; rw [add_block]; exact Kd.own_blk (Kd.R_ne HO_9.out BK303.out (by decide))) | (dsimp only; exact Kd.own_blk (Kd.R_ne HO_9.out BK303.out (by decide)))) _).trans (((cell_far (p := ⟨gb303, _, none⟩) (by first | exact Kd.own_blk (Kd.R_ne HO_9.out BK303.out (by decide)) | (rw [add_block]; exact Kd.own_blk (Kd.R_ne HO_9.out BK303.out (by decide))) | (show (Addr.add _ _).block ≠ _; rw [add_block]; exact Kd.own_blk (Kd.R_ne HO_9.out BK303.out (by decide))) | (dsimp only; exact Kd.own_blk (Kd.R_ne HO_9.out BK303.out (by decide)))) _).trans (hHeld.2.2.2.2.2.2.2.2.2.2))))))))))⟩ (fun hHeld => ?_)
                   clear hK K
                   refine pure_ (i := 19) (N := some 15) (v := ?_) (a' := ?_) #[true, true, true, true, true, true, true, true, true, true, true, true, true, true, true, true, true, true, true, true] rfl rfl (any_of HT_.out (by kernel_rfl)) (fun _ _ _ h => h) (Or.inl ⟨by rfl, ?_⟩) ?_ ?_
                   rotate_left
                   ·intro w'
                    go_simp
                    with_reducible rfl
                   rotate_left
                   ·simp only [Act.put, List.setIfInBounds_toArray, List.set_cons_zero, List.set_cons_succ, i64_w, i32_w]
                    rfl
                   refine done_ (done_of HT_.out (by kernel_rfl)) ?_
                   try go_wp2
                   have n0_ : Aside0 (Kd.R (Kd.int .i64) 3 (((((w35.setCell ⟨gb303, 0, none⟩ (.int .i64 t293)).setCell ⟨gb303, 1, none⟩ (.slice Ao37 t294.length co37)).setCell ⟨gb303, 2, none⟩ (.int .i64 t297)).setCell ⟨gb303, 3, none⟩ (.int .i64 t298)).setCell ⟨gb303, 4, none⟩ (.int .i64 t299)) w.heap.size (fun k_ => some k_ ≠ (.slice (some ad292) x9_1.length co17 : Value).ownBlock ∧ some k_ ≠ (.slice Ao37 t294.length co37 : Value).ownBlock) (.slice (some ad290) t277.length co32) t277) := ⟨by (with_reducible repeat (first | apply Kd.R_alloc | apply Kd.R_drewN | apply Kd.R_drew)); exact Kd.R_mono (Kd.R_far (p := ⟨gb303, 4, none⟩) (Kd.R_far (p := ⟨gb303, 3, none⟩) (Kd.R_far (p := ⟨gb303, 2, none⟩) (Kd.R_far (p := ⟨gb303, 1, none⟩) (Kd.R_far (p := ⟨gb303, 0, none⟩) (Kd.R_types HO_7.out BK303.out (by decide)) (fun _ hk => by first | exact hk.2 | simp_all) (.int .i64 t293)) (fun _ hk => by first | exact hk.2 | simp_all) (.slice Ao37 t294.length co37)) (fun _ hk => by first | exact hk.2 | simp_all) (.int .i64 t297)) (fun _ hk => by first | exact hk.2 | simp_all) (.int .i64 t298)) (fun _ hk => by first | exact hk.2 | simp_all) (.int .i64 t299)) (fun _ hk => by first | exact ⟨hk.1.2, hk.1.1⟩ | simp_all)⟩
                   have n1_ : Aside0 (Kd.R (Kd.int .i64) 3 (((((w35.setCell ⟨gb303, 0, none⟩ (.int .i64 t293)).setCell ⟨gb303, 1, none⟩ (.slice Ao37 t294.length co37)).setCell ⟨gb303, 2, none⟩ (.int .i64 t297)).setCell ⟨gb303, 3, none⟩ (.int .i64 t298)).setCell ⟨gb303, 4, none⟩ (.int .i64 t299)) w.heap.size (fun k_ => some k_ ≠ (.slice (some ad290) t277.length co32 : Value).ownBlock ∧ some k_ ≠ (.slice Ao37 t294.length co37 : Value).ownBlock) (.slice (some ad292) x9_1.length co17) x9_1) := ⟨by (with_reducible repeat (first | apply Kd.R_alloc | apply Kd.R_drewN | apply Kd.R_drew)); exact Kd.R_mono (Kd.R_far (p := ⟨gb303, 4, none⟩) (Kd.R_far (p := ⟨gb303, 3, none⟩) (Kd.R_far (p := ⟨gb303, 2, none⟩) (Kd.R_far (p := ⟨gb303, 1, none⟩) (Kd.R_far (p := ⟨gb303, 0, none⟩) (Kd.R_types HO_9.out BK303.out (by decide)) (fun _ hk => by first | exact hk.2 | simp_all) (.int .i64 t293)) (fun _ hk => by first | exact hk.2 | simp_all) (.slice Ao37 t294.length co37)) (fun _ hk => by first | exact hk.2 | simp_all) (.int .i64 t297)) (fun _ hk => by first | exact hk.2 | simp_all) (.int .i64 t298)) (fun _ hk => by first | exact hk.2 | simp_all) (.int .i64 t299)) (fun _ hk => by first | exact ⟨hk.1.2, hk.1.1⟩ | simp_all)⟩
                   have n2_ : Aside0 (Kd.R (Kd.int .i64) 3 (((((w35.setCell ⟨gb303, 0, none⟩ (.int .i64 t293)).setCell ⟨gb303, 1, none⟩ (.slice Ao37 t294.length co37)).setCell ⟨gb303, 2, none⟩ (.int .i64 t297)).setCell ⟨gb303, 3, none⟩ (.int .i64 t298)).setCell ⟨gb303, 4, none⟩ (.int .i64 t299)) w.heap.size (fun k_ => some k_ ≠ (.slice (some ad290) t277.length co32 : Value).ownBlock ∧ some k_ ≠ (.slice (some ad292) x9_1.length co17 : Value).ownBlock) (.slice Ao37 t294.length co37) t294) := ⟨by (with_reducible repeat (first | apply Kd.R_alloc | apply Kd.R_drewN | apply Kd.R_drew)); exact Kd.R_mono (Kd.R_far (p := ⟨gb303, 4, none⟩) (Kd.R_far (p := ⟨gb303, 3, none⟩) (Kd.R_far (p := ⟨gb303, 2, none⟩) (Kd.R_far (p := ⟨gb303, 1, none⟩) (Kd.R_far (p := ⟨gb303, 0, none⟩) (Kd.R_types HO296.out BK303.out (by decide)) (fun _ hk => by first | exact hk.2 | simp_all) (.int .i64 t293)) (fun _ hk => by first | exact hk.2 | simp_all) (.slice Ao37 t294.length co37)) (fun _ hk => by first | exact hk.2 | simp_all) (.int .i64 t297)) (fun _ hk => by first | exact hk.2 | simp_all) (.int .i64 t298)) (fun _ hk => by first | exact hk.2 | simp_all) (.int .i64 t299)) (fun _ hk => by first | exact ⟨hk.1.1, hk.1.2⟩ | simp_all)⟩
                   have n3_ : Aside0 (Kd.R k31 31 (((((w35.setCell ⟨gb303, 0, none⟩ (.int .i64 t293)).setCell ⟨gb303, 1, none⟩ (.slice Ao37 t294.length co37)).setCell ⟨gb303, 2, none⟩ (.int .i64 t297)).setCell ⟨gb303, 3, none⟩ (.int .i64 t298)).setCell ⟨gb303, 4, none⟩ (.int .i64 t299)) w.heap.size (fun _ => True) v301 t300) := ⟨by (with_reducible repeat (first | apply Kd.R_alloc | apply Kd.R_drewN | apply Kd.R_drew)); exact Kd.R_mono (Kd.R_far (p := ⟨gb303, 4, none⟩) (Kd.R_far (p := ⟨gb303, 3, none⟩) (Kd.R_far (p := ⟨gb303, 2, none⟩) (Kd.R_far (p := ⟨gb303, 1, none⟩) (Kd.R_far (p := ⟨gb303, 0, none⟩) (Kd.R_types HO302.out BK303.out (by decide)) (fun _ hk => by first | exact hk.2 | simp_all) (.int .i64 t293)) (fun _ hk => by first | exact hk.2 | simp_all) (.slice Ao37 t294.length co37)) (fun _ hk => by first | exact hk.2 | simp_all) (.int .i64 t297)) (fun _ hk => by first | exact hk.2 | simp_all) (.int .i64 t298)) (fun _ hk => by first | exact hk.2 | simp_all) (.int .i64 t299)) (fun _ hk => trivial)⟩
                   have n4_ : Aside0 ((((((w35.setCell ⟨gb303, 0, none⟩ (.int .i64 t293)).setCell ⟨gb303, 1, none⟩ (.slice Ao37 t294.length co37)).setCell ⟨gb303, 2, none⟩ (.int .i64 t297)).setCell ⟨gb303, 3, none⟩ (.int .i64 t298)).setCell ⟨gb303, 4, none⟩ (.int .i64 t299)).heap[gb303]? = some (.cells #[.int .i64 t293, .slice Ao37 t294.length co37, .int .i64 t297, .int .i64 t298, .int .i64 t299] 51 (0, 0))) := ⟨by (with_reducible repeat (first | refine blk_drewN ?_ _ | refine blk_drew ?_ | refine blk_alloc ?_ _)); refine blk_put (cs := #[.int .i64 t293, .slice Ao37 t294.length co37, .int .i64 t297, .int .i64 t298, .int .i64 0]) ?_ 4 _ rfl; (with_reducible repeat (first | refine blk_drewN ?_ _ | refine blk_drew ?_ | refine blk_alloc ?_ _)); refine blk_put (cs := #[.int .i64 t293, .slice Ao37 t294.length co37, .int .i64 t297, .int .i64 0, .int .i64 0]) ?_ 3 _ rfl; (with_reducible repeat (first | refine blk_drewN ?_ _ | refine blk_drew ?_ | refine blk_alloc ?_ _)); refine blk_put (cs := #[.int .i64 t293, .slice Ao37 t294.length co37, .int .i64 0, .int .i64 0, .int .i64 0]) ?_ 2 _ rfl; (with_reducible repeat (first | refine blk_drewN ?_ _ | refine blk_drew ?_ | refine blk_alloc ?_ _)); refine blk_put (cs := #[.int .i64 t293, .slice none 0 0, .int .i64 0, .int .i64 0, .int .i64 0]) ?_ 1 _ rfl; (with_reducible repeat (first | refine blk_drewN ?_ _ | refine blk_drew ?_ | refine blk_alloc ?_ _)); refine blk_put (cs := #[.int .i64 0, .slice none 0 0, .int .i64 0, .int .i64 0, .int .i64 0]) ?_ 0 _ rfl; (with_reducible repeat (first | refine blk_drewN ?_ _ | refine blk_drew ?_ | refine blk_alloc ?_ _)); exact BK303.out⟩
                   have n5_ : Aside0 (Below w.heap.size w (((((w35.setCell ⟨gb303, 0, none⟩ (.int .i64 t293)).setCell ⟨gb303, 1, none⟩ (.slice Ao37 t294.length co37)).setCell ⟨gb303, 2, none⟩ (.int .i64 t297)).setCell ⟨gb303, 3, none⟩ (.int .i64 t298)).setCell ⟨gb303, 4, none⟩ (.int .i64 t299))) := ⟨by repeat (first | (with_reducible first | exact HB.out | apply below_alloc | apply pw_below_drewN | apply below_drew1 | refine below_set ?_ GE303.out) | exact HB.out)⟩
                   (try clear HO_7)
                   (try clear HO_9)
                   (try clear HO296)
                   (try clear HO302)
                   (try clear BK303)
                   (try clear HB)
                   generalize (((((w35.setCell ⟨gb303, 0, none⟩ (.int .i64 t293)).setCell ⟨gb303, 1, none⟩ (.slice Ao37 t294.length co37)).setCell ⟨gb303, 2, none⟩ (.int .i64 t297)).setCell ⟨gb303, 3, none⟩ (.int .i64 t298)).setCell ⟨gb303, 4, none⟩ (.int .i64 t299)) = w42 at n0_ n1_ n2_ n3_ n4_ n5_ ⊢
                   have HO_7 := n0_
                   have HO_9 := n1_
                   have HO296 := n2_
                   have HO302 := n3_
                   have BK303 := n4_
                   have HB := n5_
                   clear n0_ n1_ n2_ n3_ n4_ n5_
                   have n0_ := Aside0.mk (Kd.R_drew HO_7.out)
                   have n1_ := Aside0.mk (Kd.R_drew HO_9.out)
                   have n2_ := Aside0.mk (Kd.R_drew HO296.out)
                   have n3_ := Aside0.mk (Kd.R_drew HO302.out)
                   have n4_ := Aside0.mk (blk_drew BK303.out)
                   have n5_ := Aside0.mk (below_drew1 HB.out)
                   clear HO_7
                   clear HO_9
                   clear HO296
                   clear HO302
                   clear BK303
                   clear HB
                   have HO_7 := n0_
                   have HO_9 := n1_
                   have HO296 := n2_
                   have HO302 := n3_
                   have BK303 := n4_
                   have HB := n5_
                   clear n0_ n1_ n2_ n3_ n4_ n5_
                   have p304 : 0 ≤ (x13_3 : Int) := of_decide_eq_true (by first | (with_reducible assumption) | assumption)
                   have q304 : x13_3 < (t277.length : Int) := of_decide_eq_true (by first | (with_reducible assumption) | assumption)
                   obtain ⟨ad304, e304, hx304_0⟩ := Kd.at_int (Kd.R_reads' HO_7.out).2.2 x13_3 p304 q304
                   obtain rfl : ad290 = ad304 := (by injection e304)
                   replace p304 := eq_true p304
                   replace q304 := eq_true q304
                   have p305 : 0 ≤ ((rd t277 x13_3) : Int) := of_decide_eq_true (by first | (with_reducible assumption) | assumption)
                   have q305 : (rd t277 x13_3) < (l1.length : Int) := of_decide_eq_true (by first | (with_reducible assumption) | assumption)
                   obtain ⟨ad305, A305_5, c305_5, e305, hx305_0, hx305_1, hx305_2, hx305_3, hx305_4, hx305_5, hx305_6, hx305_7, hx305_8, hl305_5, hi305_5⟩ := at_T93 HR1.out (rd t277 x13_3) p305 q305
                   have hw305_8 := hx305_8
                   have hw305_7 := hx305_7
                   have hw305_6 := hx305_6
                   have hw305_5 := hx305_5
                   have hw305_4 := hx305_4
                   have hw305_3 := hx305_3
                   have hw305_2 := hx305_2
                   have hw305_1 := hx305_1
                   have hw305_0 := hx305_0
                   obtain rfl : ad291 = ad305 := (by injection e305)
                   obtain ⟨rfl, rfl⟩ : A291_5 = A305_5 ∧ c291_5 = c305_5 := by
                    have e_ := Option.some.inj (hw291_5.symm.trans hw305_5)
                    first | (injection e_ with a_ b_ c_; exact ⟨a_, c_⟩) | (injection e_ with a_ c_; exact ⟨a_, c_⟩)
                   replace hx305_0 := (HB.out.cell (World.block_lt_of_cell? w _ hx305_0)).trans hx305_0
                   replace hx305_1 := (HB.out.cell (World.block_lt_of_cell? w _ hx305_1)).trans hx305_1
                   replace hx305_2 := (HB.out.cell (World.block_lt_of_cell? w _ hx305_2)).trans hx305_2
                   replace hx305_3 := (HB.out.cell (World.block_lt_of_cell? w _ hx305_3)).trans hx305_3
                   replace hx305_4 := (HB.out.cell (World.block_lt_of_cell? w _ hx305_4)).trans hx305_4
                   replace hx305_5 := (HB.out.cell (World.block_lt_of_cell? w _ hx305_5)).trans hx305_5
                   replace hx305_6 := (HB.out.cell (World.block_lt_of_cell? w _ hx305_6)).trans hx305_6
                   replace hx305_7 := (HB.out.cell (World.block_lt_of_cell? w _ hx305_7)).trans hx305_7
                   replace hx305_8 := (HB.out.cell (World.block_lt_of_cell? w _ hx305_8)).trans hx305_8
                   have HR305_5 := Aside0.mk hi305_5
                   have HC305_5 := Aside0.mk hl305_5
                   clear hi305_5 hl305_5
                   replace p305 := eq_true p305
                   replace q305 := eq_true q305
                   refine start_ (n := 11) (S := fun w' => w'.cell? ⟨gb303, 0, none⟩ = some (.int .i64 t293) ∧ w'.cell? ⟨gb303, 1, none⟩ = some (.slice Ao37 t294.length co37) ∧ w'.cell? ⟨gb303, 2, none⟩ = some (.int .i64 t297) ∧ w'.cell? ⟨gb303, 3, none⟩ = some (.int .i64 t298) ∧ w'.cell? ⟨gb303, 4, none⟩ = some (.int .i64 t299) ∧ w'.cell? (ad290.add (x13_3).toNat) = some (.int .i64 (rd t277 x13_3)) ∧ w'.cell? (ad291.add (((rd t277 x13_3)).toNat * 9)) = some (.int .i64 ((rd_T93 l1 (rd t277 x13_3)).f0.f0)) ∧ w'.cell? ⟨(ad291.add (((rd t277 x13_3)).toNat * 9)).block, (ad291.add (((rd t277 x13_3)).toNat * 9)).off + 1, none⟩ = some (.int .i64 ((rd_T93 l1 (rd t277 x13_3)).f0.f1)) ∧ w'.cell? ⟨(ad291.add (((rd t277 x13_3)).toNat * 9)).block, (ad291.add (((rd t277 x13_3)).toNat * 9)).off + 2, none⟩ = some (.int .i64 ((rd_T93 l1 (rd t277 x13_3)).f0.f2)) ∧ w'.cell? ⟨(ad291.add (((rd t277 x13_3)).toNat * 9)).block, (ad291.add (((rd t277 x13_3)).toNat * 9)).off + 3, none⟩ = some (.int .i64 ((rd_T93 l1 (rd t277 x13_3)).f1)) ∧ w'.cell? ⟨(ad291.add (((rd t277 x13_3)).toNat * 9)).block, (ad291.add (((rd t277 x13_3)).toNat * 9)).off + 4, none⟩ = some (.int .i64 ((rd_T93 l1 (rd t277 x13_3)).f2.f0)) ∧ w'.cell? ⟨(ad291.add (((rd t277 x13_3)).toNat * 9)).block, (ad291.add (((rd t277 x13_3)).toNat * 9)).off + 5, none⟩ = some (.slice A291_5 ((rd_T93 l1 (rd t277 x13_3)).f2.f1).length c291_5) ∧ w'.cell? ⟨(ad291.add (((rd t277 x13_3)).toNat * 9)).block, (ad291.add (((rd t277 x13_3)).toNat * 9)).off + 6, none⟩ = some (.int .i64 ((rd_T93 l1 (rd t277 x13_3)).f2.f2.f0)) ∧ w'.cell? ⟨(ad291.add (((rd t277 x13_3)).toNat * 9)).block, (ad291.add (((rd t277 x13_3)).toNat * 9)).off + 7, none⟩ = some (.int .i64 ((rd_T93 l1 (rd t277 x13_3)).f2.f2.f1)) ∧ w'.cell? ⟨(ad291.add (((rd t277 x13_3)).toNat * 9)).block, (ad291.add (((rd t277 x13_3)).toNat * 9)).off + 8, none⟩ = some (.int .i64 ((rd_T93 l1 (rd t277 x13_3)).f2.f2.f2))) (ds := []) #[false, false, false, false, false, false, false, false, false, false, false] (by kernel_rfl) rfl rfl ⟨(blk_cell BK303.out 0).trans rfl, (blk_cell BK303.out 1).trans rfl, (blk_cell BK303.out 2).trans rfl, (blk_cell BK303.out 3).trans rfl, (blk_cell BK303.out 4).trans rfl, hx304_0, ((HB.out.cell (World.block_lt_of_cell? w _ hw305_0)).trans hw305_0), ((HB.out.cell (World.block_lt_of_cell? w _ hw305_1)).trans hw305_1), ((HB.out.cell (World.block_lt_of_cell? w _ hw305_2)).trans hw305_2), ((HB.out.cell (World.block_lt_of_cell? w _ hw305_3)).trans hw305_3), ((HB.out.cell (World.block_lt_of_cell? w _ hw305_4)).trans hw305_4), ((HB.out.cell (World.block_lt_of_cell? w _ hw305_5)).trans hw305_5), ((HB.out.cell (World.block_lt_of_cell? w _ hw305_6)).trans hw305_6), ((HB.out.cell (World.block_lt_of_cell? w _ hw305_7)).trans hw305_7), ((HB.out.cell (World.block_lt_of_cell? w _ hw305_8)).trans hw305_8)⟩ (fun hHeld => ?_); refine with_tabW spec_CouldBe.tab18 spec_CouldBe.bits18 (fun HT_ HW_ => ?_)
                   generalize w42.drew = w43 at HO_7 HO_9 HO296 HO302 BK303 HB HR305_5 hx304_0 hx305_0 hx305_1 hx305_2 hx305_3 hx305_4 hx305_5 hx305_6 hx305_7 hx305_8 hHeld ⊢
                   refine pure_ (i := 1) (N := some 77) (v := ?_) (a' := ?_) #[false, true, false, false, false, false, false, false, false, false, false] rfl rfl (any_of HT_.out (by kernel_rfl)) (fun _ _ _ h => h) (Or.inl ⟨by rfl, ?_⟩) ?_ ?_
                   rotate_left
                   ·intro w'
                    go_simp
                    with_reducible rfl
                   rotate_left
                   ·simp only [Act.put, List.setIfInBounds_toArray, List.set_cons_zero, List.set_cons_succ, i64_w, i32_w]
                    rfl
                   refine pure_ (i := 2) (N := some 78) (v := ?_) (a' := ?_) #[false, true, true, false, false, false, false, false, false, false, false] rfl rfl (any_of HT_.out (by kernel_rfl)) (fun _ _ _ h => h) (Or.inl ⟨by rfl, ?_⟩) ?_ ?_
                   rotate_left
                   ·intro w'
                    go_simp
                    with_reducible rfl
                   rotate_left
                   ·simp only [Act.put, List.setIfInBounds_toArray, List.set_cons_zero, List.set_cons_succ, i64_w, i32_w]
                    rfl
                   refine pure_ (i := 3) (N := some 79) (v := ?_) (a' := ?_) #[false, true, true, true, false, false, false, false, false, false, false] rfl rfl (any_of HT_.out (by kernel_rfl)) (fun _ _ _ h => h) (Or.inl ⟨by rfl, ?_⟩) ?_ ?_
                   rotate_left
                   ·intro w'
                    go_simp
                    with_reducible rfl
                   rotate_left
                   ·simp only [Act.put, List.setIfInBounds_toArray, List.set_cons_zero, List.set_cons_succ, i64_w, i32_w]
                    rfl
                   refine pure_ (i := 4) (N := some 80) (v := ?_) (a' := ?_) #[false, true, true, true, true, false, false, false, false, false, false] rfl rfl (any_of HT_.out (by kernel_rfl)) (fun _ _ _ h => h) (Or.inl ⟨by rfl, ?_⟩) ?_ ?_
                   rotate_left
                   ·intro w'
                    go_simp
                    with_reducible rfl
                   rotate_left
                   ·simp only [Act.put, List.setIfInBounds_toArray, List.set_cons_zero, List.set_cons_succ, i64_w, i32_w]
                    rfl
                   refine take_ (i := 0) (N := some 76) (v := ?_) (a' := ?_) #[true, true, true, true, true, false, false, false, false, false, false] rfl rfl (take_ofW HT_.out HW_.out (by kernel_rfl)) (fun _ _ _ h => h) (Or.inl ⟨by rfl, ?_⟩) hHeld ?_ ?_
                   rotate_left
                   ·rintro w' ⟨s0, s1, s2, s3, s4, s5, s6, s7, s8, s9, s10, s11, s12, s13, s14⟩
                    go_simp
                    with_reducible rfl
                   rotate_left
                   ·simp only [Act.put, List.setIfInBounds_toArray, List.set_cons_zero, List.set_cons_succ, i64_w, i32_w]
                    rfl
                   refine take_ (i := 5) (N := some 81) (v := ?_) (a' := ?_) #[true, true, true, true, true, true, false, false, false, false, false] rfl rfl (take_ofW HT_.out HW_.out (by kernel_rfl)) (fun _ _ _ h => h) (Or.inl ⟨by rfl, ?_⟩) hHeld ?_ ?_
                   rotate_left
                   ·rintro w' ⟨s0, s1, s2, s3, s4, s5, s6, s7, s8, s9, s10, s11, s12, s13, s14⟩
                    go_simp
                    with_reducible rfl
                   rotate_left
                   ·simp only [Act.put, List.setIfInBounds_toArray, List.set_cons_zero, List.set_cons_succ, i64_w, i32_w]
                    rfl
                   refine pure_ (i := 6) (N := some 82) (v := ?_) (a' := ?_) #[true, true, true, true, true, true, true, false, false, false, false] rfl rfl (any_of HT_.out (by kernel_rfl)) (fun _ _ _ h => h) (Or.inl ⟨by rfl, ?_⟩) ?_ ?_
                   rotate_left
                   ·intro w'
                    go_simp
                    with_reducible rfl
                   rotate_left
                   ·simp only [Act.put, List.setIfInBounds_toArray, List.set_cons_zero, List.set_cons_succ, i64_w, i32_w]
                    rfl
                   refine pure_ (i := 7) (N := some 83) (v := ?_) (a' := ?_) #[true, true, true, true, true, true, true, true, false, false, false] rfl rfl (any_of HT_.out (by kernel_rfl)) (fun _ _ _ h => h) (Or.inl ⟨by rfl, ?_⟩) ?_ ?_
                   rotate_left
                   ·intro w'
                    go_simp
                    with_reducible rfl
                   rotate_left
                   ·simp only [Act.put, List.setIfInBounds_toArray, List.set_cons_zero, List.set_cons_succ, i64_w, i32_w]
                    rfl
                   refine take_ (i := 8) (N := some 84) (v := ?_) (a' := ?_) #[true, true, true, true, true, true, true, true, true, false, false] rfl rfl (take_ofW HT_.out HW_.out (by kernel_rfl)) (fun _ _ _ h => h) (Or.inl ⟨by rfl, ?_⟩) hHeld ?_ ?_
                   rotate_left
                   ·rintro w' ⟨s0, s1, s2, s3, s4, s5, s6, s7, s8, s9, s10, s11, s12, s13, s14⟩
                    go_simp
                    with_reducible rfl
                   rotate_left
                   ·simp only [Act.put, List.setIfInBounds_toArray, List.set_cons_zero, List.set_cons_succ, i64_w, i32_w]
                    rfl
                   refine one_ (i := 9) (N := some 85) #[true, true, true, true, true, true, true, true, true, true, false] rfl rfl (one_of HT_.out (by kernel_rfl)) (by decide) (fun K hK => ?_)
                   refine goes_ Try.func141 (by kernel_rfl) rfl #[.agg #[.int .i64 t293, .slice Ao37 t294.length co37, .int .i64 t297, .int .i64 t298, .int .i64 t299], .agg #[.int .i64 ((rd_T93 l1 (rd t277 x13_3)).f2.f0), .slice A291_5 ((rd_T93 l1 (rd t277 x13_3)).f2.f1).length c291_5, .int .i64 ((rd_T93 l1 (rd t277 x13_3)).f2.f2.f0), .int .i64 ((rd_T93 l1 (rd t277 x13_3)).f2.f2.f1), .int .i64 ((rd_T93 l1 (rd t277 x13_3)).f2.f2.f2)]] (by rfl) rfl rfl (by (try simp only [List.map_toArray, List.map_cons, List.map_nil]); first | done | rfl | (simp only [List.length_drop, List.length_take]; rfl)) ?_
                   with_reducible refine (spec_EqualResources.calls kj17 t293 _ _ t294 t297 t298 t299 ((rd_T93 l1 (rd t277 x13_3)).f2.f0) _ _ ((rd_T93 l1 (rd t277 x13_3)).f2.f1) ((rd_T93 l1 (rd t277 x13_3)).f2.f2.f0) ((rd_T93 l1 (rd t277 x13_3)).f2.f2.f1) ((rd_T93 l1 (rd t277 x13_3)).f2.f2.f2) t306 _ ?side1 ?side2 ?side3 ?side4 A30.out).mono ?_
                   (case side1 => repeat (first | exact (Kd.R_reads' HO296.out).2.2 | (with_reducible refine Kd.C_alloc ?_ _) | (with_reducible refine Kd.C_drewN ?_ _) | (with_reducible refine Kd.C_drew ?_)))
                   (case side2 => exact (Kd.R_reads' HO296.out).2.1)
                   (case side3 => repeat (first | exact (Kd.C_below HR305_5.out HB.out) | (with_reducible refine Kd.C_alloc ?_ _) | (with_reducible refine Kd.C_drewN ?_ _) | (with_reducible refine Kd.C_drew ?_)))
                   (case side4 => exact HC305_5.out)
                   rintro e w44 ⟨rfl, hb⟩
                   have HS5_ := (hb.cell (World.block_lt_of_cell? _ _ (hHeld.2.2.2.2.2.1))).trans (hHeld.2.2.2.2.2.1)
                   refine ⟨_, rfl, ?_⟩
                   have n0_ := Aside0.mk (Kd.R_below (by (with_reducible repeat (first | apply Kd.R_alloc | apply Kd.R_drewN | apply Kd.R_drew)); exact HO_7.out) hb)
                   have n1_ := Aside0.mk (Kd.R_below (by (with_reducible repeat (first | apply Kd.R_alloc | apply Kd.R_drewN | apply Kd.R_drew)); exact HO_9.out) hb)
                   have n2_ := Aside0.mk (Kd.R_below (by (with_reducible repeat (first | apply Kd.R_alloc | apply Kd.R_drewN | apply Kd.R_drew)); exact HO296.out) hb)
                   have n3_ := Aside0.mk (Kd.R_below (by (with_reducible repeat (first | apply Kd.R_alloc | apply Kd.R_drewN | apply Kd.R_drew)); exact HO302.out) hb)
                   have n4_ := Aside0.mk (blk_below (g := gb303) (o := .cells #[.int .i64 t293, .slice Ao37 t294.length co37, .int .i64 t297, .int .i64 t298, .int .i64 t299] 51 (0, 0)) (by (with_reducible repeat (first | refine blk_drewN ?_ _ | refine blk_drew ?_ | refine blk_alloc ?_ _)); exact BK303.out) hb)
                   have n5_ := Aside0.mk (below_step (by repeat (first | (with_reducible first | exact HB.out | apply below_alloc | apply pw_below_drewN | apply below_drew1 | refine below_set ?_ GE303.out) | exact HB.out)) hb)
                   clear HO_7
                   clear HO_9
                   clear HO296
                   clear HO302
                   clear BK303
                   clear HB
                   have HO_7 := n0_
                   have HO_9 := n1_
                   have HO296 := n2_
                   have HO302 := n3_
                   have BK303 := n4_
                   have HB := n5_
                   clear n0_ n1_ n2_ n3_ n4_ n5_
                   (try clear hb)
                   (try clear hb2)
                   (try clear hk)
                   (try clear hi)
                   refine hK.out _ _ ⟨(blk_cell BK303.out 0).trans rfl, (blk_cell BK303.out 1).trans rfl, (blk_cell BK303.out 2).trans rfl, (blk_cell BK303.out 3).trans rfl, (blk_cell BK303.out 4).trans rfl, HS5_, ((HB.out.cell (World.block_lt_of_cell? w _ hw305_0)).trans hw305_0), ((HB.out.cell (World.block_lt_of_cell? w _ hw305_1)).trans hw305_1), ((HB.out.cell (World.block_lt_of_cell? w _ hw305_2)).trans hw305_2), ((HB.out.cell (World.block_lt_of_cell? w _ hw305_3)).trans hw305_3), ((HB.out.cell (World.block_lt_of_cell? w _ hw305_4)).trans hw305_4), ((HB.out.cell (World.block_lt_of_cell? w _ hw305_5)).trans hw305_5), ((HB.out.cell (World.block_lt_of_cell? w _ hw305_6)).trans hw305_6), ((HB.out.cell (World.block_lt_of_cell? w _ hw305_7)).trans hw305_7), ((HB.out.cell (World.block_lt_of_cell? w _ hw305_8)).trans hw305_8)⟩ (fun hHeld => ?_)
                   clear hK K
                   refine norm_ (a' := ?_) ?_ ?_
                   rotate_left
                   ·show Act.put _ (some 85) _ = _
                    simp only [Act.put, List.setIfInBounds_toArray, List.set_cons_zero, List.set_cons_succ, i64_w, i32_w]
                    rfl
                   refine pure_ (i := 10) (N := some 12) (v := ?_) (a' := ?_) #[true, true, true, true, true, true, true, true, true, true, true] rfl rfl (any_of HT_.out (by kernel_rfl)) (fun _ _ _ h => h) (Or.inl ⟨by rfl, ?_⟩) ?_ ?_
                   rotate_left
                   ·intro w'
                    go_simp
                    with_reducible rfl
                   rotate_left
                   ·simp only [Act.put, List.setIfInBounds_toArray, List.set_cons_zero, List.set_cons_succ, i64_w, i32_w]
                    rfl
                   refine done_ (done_of HT_.out (by kernel_rfl)) ?_
                   try go_wp2
                   go_roundg kj17
                   case measure => have := HK1.out; have := HK2.out; have := HK3.out; have := HJ17.out; omega
                   case rel => exact ⟨(t306), (wrap64 (x13_3 + 1)), (by first | rfl | (simp; done) | (simp [*]; done)), (by first | rfl | (simp; done) | (simp [*]; done)), H', ⟨by have := HK1.out; have := HK2.out; have := HK3.out; have := HJ17.out; omega⟩, ⟨by (with_reducible repeat (first | apply Kd.R_alloc | apply Kd.R_drewN | apply Kd.R_drew)); exact Kd.R_mono HO_7.out (fun _ hk => by first | exact hk.1 | simp_all)⟩, ⟨by (with_reducible repeat (first | apply Kd.R_alloc | apply Kd.R_drewN | apply Kd.R_drew)); exact Kd.R_mono HO_9.out (fun _ hk => by first | exact hk.1 | simp_all)⟩, ⟨by repeat (first | (with_reducible first | exact HB.out | apply below_alloc | apply pw_below_drewN | apply below_drew1 | refine below_set ?_ GE303.out) | exact HB.out)⟩⟩
                  ·rw [if_neg c28] at H
                   exact absurd H (by simp)
                 ·rw [if_neg c27] at H
                  exact absurd H (by simp)
                ·rw [if_neg c26] at H
                 exact absurd H (by simp)
               ·rw [if_neg c25] at H
                exact absurd H (by simp)
              ·rw [if_neg c24] at H
               exact absurd H (by simp)
             ·rw [if_neg c23] at H
              exact absurd H (by simp)
            ·replace c22 := Bool.eq_false_iff.mpr c22
             subst c22
             have H1 : (if x12_3 = true then (some true) else (spec_CouldBe.l1 kj17 l0 l1 t277 x9_1 (wrap64 (x11_2 + 1)))) = some r := by rw [if_neg (show ¬ (false = true) by decide)] at H; exact H
             clear H
             have H := H1
             clear H1
             by_cases c45 : x12_3 = true
             ·subst c45
              have H1 : (some true) = some r := by rw [if_pos rfl] at H; exact H
              clear H
              have H := H1
              clear H1
              obtain rfl := Option.some.inj H
              go_wp2
              go_ret
              exact ⟨by first | rfl | (simp [errW_none, errW_some] <;> rfl) | (simp [*, errW_none, errW_some] <;> rfl), by repeat (first | (with_reducible first | exact HB.out | apply below_alloc | apply pw_below_drewN | apply below_drew1) | exact HB.out)⟩
             ·replace c45 := Bool.eq_false_iff.mpr c45
              subst c45
              have H1 : (spec_CouldBe.l1 kj17 l0 l1 t277 x9_1 (wrap64 (x11_2 + 1))) = some r := by rw [if_neg (show ¬ (false = true) by decide)] at H; exact H
              clear H
              have H := H1
              clear H1
              have H' := Aside0.mk H
              clear H
              go_wp2
              go_roundg kj17
              case measure => have := HK1.out; have := HK2.out; have := HK3.out; have := HJ17.out; omega
              case rel => exact ⟨(wrap64 (x11_2 + 1)), (by first | rfl | (simp; done) | (simp [*]; done)), H', ⟨by have := HK1.out; have := HK2.out; have := HK3.out; have := HJ17.out; omega⟩, ⟨by (with_reducible repeat (first | apply Kd.R_alloc | apply Kd.R_drewN | apply Kd.R_drew)); exact HO_7.out⟩, ⟨by (with_reducible repeat (first | apply Kd.R_alloc | apply Kd.R_drewN | apply Kd.R_drew)); exact HO_9.out⟩, ⟨by repeat (first | (with_reducible first | exact HB.out | apply below_alloc | apply pw_below_drewN | apply below_drew1) | exact HB.out)⟩⟩
       ·rw [if_neg c16] at H
        have c16b0 : decide (x11_2 < (x9_1.length : Int)) = false := decide_eq_false c16
        clear c16
        obtain rfl := Option.some.inj H
        obtain ⟨Ao46, co46, eo46⟩ := Kd.R_slice HO_9.out
        subst eo46
        go_wp2
        go_ret
        exact ⟨by first | rfl | (simp [errW_none, errW_some] <;> rfl) | (simp [*, errW_none, errW_some] <;> rfl), by repeat (first | (with_reducible first | exact HB.out | apply below_alloc | apply pw_below_drewN | apply below_drew1) | exact HB.out)⟩
 ·replace c5 := Bool.eq_false_iff.mpr c5
  subst c5
  have H1 : (some false) = some r := by rw [if_neg (show ¬ (false = true) by decide)] at H; exact H
  clear H
  have H := H1
  clear H1
  obtain rfl := Option.some.inj H
  go_enter Try.func59, Try.ntmps59
  go_wp2_with (first | ((with_reducible refine gate_callee (f := 138) rfl ?_); refine goesL_ (some 19) rfl rfl Try.func138 (by kernel_rfl) rfl #[.slice A1 l1.length c1, .int .i64 a2] rfl (by (try simp only [List.map_toArray, List.map_cons, List.map_nil]); first | done | rfl | (simp only [List.length_drop, List.length_take]; rfl)) ?_; (with_reducible refine (spec_l18All.calls k _ _ l1 a2 t277 false _ ?side1 ?side2 A4.out).mono ?_); (case side1 => repeat (first | exact HR1.out | (with_reducible refine Kd.C_alloc ?_ _) | (with_reducible refine Kd.C_drewN ?_ _) | (with_reducible refine Kd.C_drew ?_))); (case side2 => exact HC1.out); rintro e w47 ⟨v279, rfl, ho0, hb⟩; refine ⟨_, rfl, ?_⟩; have n0_ := Aside0.mk (Kd.R_lower ho0 (below_size (by repeat (first | (with_reducible first | exact HB.out | apply below_alloc | apply pw_below_drewN | apply below_drew1) | exact HB.out)))); have n1_ := Aside0.mk (below_step (by repeat (first | (with_reducible first | exact HB.out | apply below_alloc | apply pw_below_drewN | apply below_drew1) | exact HB.out)) hb); clear HB; have HO280 := n0_; have HB := n1_; clear n0_ n1_; (try clear hb); (try clear hb2); (try clear hk); (try clear hi); (try clear ho0)))
  go_ret
  exact ⟨by first | rfl | (simp [errW_none, errW_some] <;> rfl) | (simp [*, errW_none, errW_some] <;> rfl), by repeat (first | (with_reducible first | exact HB.out | apply below_alloc | apply pw_below_drewN | apply below_drew1) | exact HB.out)⟩

end Go.Proofs.Ytegaambhmpoakaa.MFnExactCouldBe
