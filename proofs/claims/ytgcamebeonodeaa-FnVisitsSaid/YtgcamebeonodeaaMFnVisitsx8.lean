-- Written by a program of this session out of the translation's own print. Not trusted: Lean checks it.
import Derived.Test.YtgcamebeonodeaaShr2
import Derived.Test.YtgcamebeonodeaaMFnVisitsx0
import Derived.Test.YtgcamebeonodeaaMFnVisitsx5
import Derived.Test.YtgcamebeonodeaaMFnVisitsx6
import Derived.Test.YtgcamebeonodeaaMFnVisitsx7
namespace Go.Proofs.Ytgcamebeonodeaa.MFnVisits
open Go.RowKit Go.Proofs.YtgcamebeonodeaaW.PrintWords Go.Proofs.YtgcamebeonodeaaW.PrintLast Go.Proofs.YtgcamebeonodeaaW.PrintMore
attribute [local go_sem] max2_int min2_int max_two min_two max_three min_three max_four min_four   -- for this text's walks alone
set_option linter.unusedVariables false
set_option linter.unusedSimpArgs false

/-! ### impl_FollowAt: function 86 -/
def impl_FollowAt.l0 : Nat → List (S169) → Int → List (S26) → Int → List Int → Int → Int → Int → Option (Int × List Int × Int × Int × Int × (List (S26)))
  | 0, _, _, _, _, _, _, _, _ => none
  | k + 1, x0, x2, x9, x468000, x468001, x468002, x468003, x468004 => if x468000 = 3 then (if (x9.length : Int) ≤ 4 then ((impl_Address_139.f k x9 x468002 x468003 x468004).bind fun t471 => (if t471 = true then (some (x468000, x468001, x468002, x468003, x468004, x9)) else (if x9.length < 5864062014805 then ((impl_AnswerAt.f k x0 x468002 x468003 x468004 x2).bind fun bt475 => (impl_FollowAt.l0 k x0 x2 (x9 ++ [(⟨x468002, x468003, x468004⟩ : S26)]) bt475.1 bt475.2.1 bt475.2.2.1 bt475.2.2.2.1 bt475.2.2.2.2)) else (none)))) else (some (x468000, x468001, x468002, x468003, x468004, x9))) else (some (x468000, x468001, x468002, x468003, x468004, x9))
def impl_FollowAt.f (k : Nat) (l0 : List (S169)) (a1_0 : Int) (a1_1 : Int) (a1_2 : Int) (a2 : Int) : Option (Int × List Int × Int × Int × Int × (List (S26))) := (impl_AnswerAt.f k l0 a1_0 a1_1 a1_2 a2).bind fun bt460 => (impl_FollowAt.l0 k l0 a2 (([(⟨a1_0, a1_1, a1_2⟩ : S26)] : List (S26))) bt460.1 bt460.2.1 bt460.2.2.1 bt460.2.2.2.1 bt460.2.2.2.2)
set_option maxHeartbeats 8000000 in
set_option maxRecDepth 100000 in
theorem impl_FollowAt.calls (k : Nat) (A0 : Option Addr) (c0 : Nat) (l0 : List (S169)) (a1_0 : Int) (a1_1 : Int) (a1_2 : Int) (a2 : Int) (r1 : Int) (r2 : List Int) (r3 : Int) (r4 : Int) (r5 : Int) (r6 : List (S26)) (w : World) (hr0 : Kd.C k169 w A0 l0.length l0) (hc0 : l0.length ≤ c0) (h : impl_FollowAt.f k l0 a1_0 a1_1 a1_2 a2 = some (r1, r2, r3, r4, r5, r6)) :
  Calls Try.prog 86 #[.slice A0 l0.length c0, .agg #[.int .i64 a1_0, .int .i64 a1_1, .int .i64 a1_2], .int .i64 a2] w fun e w' => ∃ v1_ v5_ : Value, e = .returned (.tuple #[.agg #[.int .i64 r1, v1_, .int .i64 r3, .int .i64 r4, .int .i64 r5], v5_]) ∧ Kd.R (Kd.int .i64) 3 w' w.heap.size (fun _ => True) v1_ r2 ∧ Kd.R k26 26 w' w.heap.size (fun _ => True) v5_ r6 ∧ Below w.heap.size w w' := by
 have hu26 := Try.underlying26
 have hu38 := Try.underlying38
 have HR0 := Aside0.mk hr0
 have HC0 := Aside0.mk hc0
 clear hr0 hc0
 have HB := ak (Below.refl w.heap.size w)
 have H : ((impl_AnswerAt.f k l0 a1_0 a1_1 a1_2 a2).bind fun bt460 => (impl_FollowAt.l0 k l0 a2 (([(⟨a1_0, a1_1, a1_2⟩ : S26)] : List (S26))) bt460.1 bt460.2.1 bt460.2.2.1 bt460.2.2.2.1 bt460.2.2.2.2)) = some (r1, r2, r3, r4, r5, r6) := h
 clear h
 replace H := Option.bind_eq_some_iff.mp H
 obtain ⟨⟨t460, t461, t464, t465, t466⟩, A40, H⟩ := H
 replace H : (impl_FollowAt.l0 k l0 a2 (([(⟨a1_0, a1_1, a1_2⟩ : S26)] : List (S26))) t460 t461 t464 t465 t466) = some (r1, r2, r3, r4, r5, r6) := H
 have A4 := Aside0.mk A40
 clear A40
 obtain ⟨y468, hy468⟩ : ∃ y_ : List (S26), y_ = (([(⟨a1_0, a1_1, a1_2⟩ : S26)] : List (S26))) := ⟨_, rfl⟩
 replace H : (impl_FollowAt.l0 k l0 a2 y468 t460 t461 t464 t465 t466) = some (r1, r2, r3, r4, r5, r6) := by first | (rw [hy468]; with_reducible exact H) | (have H2_ := (Option.bind_some _ _).symm.trans H; rw [hy468]; with_reducible exact H2_) | (have H2_ := (Option.bind_some _ _).symm.trans H; with_reducible exact H2_) | with_reducible exact H | (rw [hy468]; exact H) | exact H
 have Ny468 := Aside0.mk hy468
 clear hy468
 have H' := Aside0.mk H
 clear H
 go_enter Try.func86, Try.ntmps86
 go_wp2_with (first | ((with_reducible refine gate_dst (N := 4) rfl ?_); (try (refine gate_guard (by rfl) ?_; dsimp only)); refine bx_ (N := 4) #[.int .i64 a1_0, .int .i64 a1_1, .int .i64 a1_2] 26 ?_; intro gb458 hg w5 hbox hb; have BK458 := ak hbox; have GW458 := gy hg HB; have GE458 := gy hg HB; replace HB := bs HB hb; clear hb hbox hg) | ((with_reducible refine gate_dst (N := 6) rfl ?_); (try (refine gate_guard (by rfl) ?_; dsimp only)); refine bx_ (N := 6) #[.int .i64 0, .slice none 0 0, .int .i64 0, .int .i64 0, .int .i64 0] 38 ?_; intro gb459 hg w6 hbox hb; have BK459 := ak hbox; have GW459 := gy hg HB; have GE459 := gy hg HB; replace HB := bs HB hb; have NB458_459 := gm hg BK458; have NB459_458 := gn hg BK458; replace BK458 := kf BK458 hb; clear hb hbox hg; have hnb7 := NB458_459.out; have hnc7 := NB459_458.out; obtain ⟨hcz8_0, hcz8_1, hcz8_2, hfz8_0, hfz8_1, hfz8_2⟩ := bc3 BK458) | ((with_reducible refine gate_callee (f := 138) rfl ?_); refine goesL_ (some 13) rfl rfl Try.func138 KR rfl #[.slice A0 l0.length c0, .agg #[.int .i64 a1_0, .int .i64 a1_1, .int .i64 a1_2], .int .i64 a2] rfl AR ?_; (with_reducible refine (impl_AnswerAt.calls k _ _ l0 a1_0 a1_1 a1_2 a2 t460 t461 t464 t465 t466 _ ?side1 ?side2 A4.out).mono ?_); (case side1 => exact CR (Kd.C_below HR0.out HB.out)); (case side2 => exact HC0.out); rintro e w9 ⟨v462, rfl, ho0, hb⟩; refine ⟨_, rfl, ?_⟩; have HO463 := Rn0 ho0 HB; replace BK458 := kf BK458 hb; replace BK459 := kf BK459 hb; replace HB := bs HB hb; (try clear hb); (try clear hb2); (try clear hk); (try clear hi); (try clear ho0)) | ((with_reducible refine gate_dst (N := 8) rfl ?_); (try (refine gate_guard (by rfl) ?_; dsimp only)); refine bx_ (N := 8) #[.int .i64 0, .slice none 0 0, .int .i64 0, .int .i64 0, .int .i64 0] 38 ?_; intro gb467 hg w10 hbox hb; replace HO463 := Rb HO463 hb; have BK467 := ak hbox; have GW467 := gy hg HB; have GE467 := gy hg HB; replace HB := bs HB hb; have NB458_467 := gm hg BK458; have NB467_458 := gn hg BK458; replace BK458 := kf BK458 hb; have NB459_467 := gm hg BK459; have NB467_459 := gn hg BK459; replace BK459 := kf BK459 hb; clear hb hbox hg; have hnb11 := NB467_458.out; have hnc11 := NB458_467.out; have hnb12 := NB467_459.out; have hnc12 := NB459_467.out; obtain ⟨hcz13_0, hcz13_1, hcz13_2, hcz13_3, hcz13_4, hfz13_0, hfz13_1, hfz13_2, hfz13_3, hfz13_4⟩ := bc5 BK467; obtain ⟨Ao14, co14, eo14⟩ := Kd.R_slice HO463.out; subst eo14; obtain ⟨hcz15_0, hcz15_1, hcz15_2, hfz15_0, hfz15_1, hfz15_2⟩ := bc3 BK458) | ((with_reducible refine gate_dst (N := 15) rfl ?_); (try (refine gate_guard (by rfl) ?_; dsimp only)); refine Kd.R_lit k26 _ 26 ?hg (N := 15) ?hd (xs := ([(⟨a1_0, a1_1, a1_2⟩ : S26)] : List (S26))) (inner := [.int .i64 a1_0, .int .i64 a1_1, .int .i64 a1_2]) (ok := fun _ => True) (okp := fun _ => True) ?hr ?hp (fun _ hk => hk) trivial (Below.refl _ _) (Nat.le_refl _) (by simp) ?_; (case hd => rfl); (case hg => rfl); (case hr => first | (go_simp; done) | (go_simp; rfl)); (case hp => exact (Reps.c3 (show Kd.M k26 _ _ _ (⟨a1_0, a1_1, a1_2⟩ : S26) [.int .i64 a1_0, .int .i64 a1_1, .int .i64 a1_2] from (k26_mkM _ _ _ (⟨a1_0, a1_1, a1_2⟩ : S26) )) (Reps.none _ _))); intro v469 w16 ho17 hb hg_ hnew_; clear hg_ hnew_; (first | rw [← Ny468.out] at ho17 | (simp only [Int.reduceToNat] at ho17; rw [← Ny468.out] at ho17)); replace HO463 := ak (Kd.R_below (Re1 HO463 BK467) hb); have HO470 := ak (Kd.R_lower (Kd.R_newB ho17 (g := gb458) (o := .cells #[.int .i64 a1_0, .int .i64 a1_1, .int .i64 a1_2] 26 (0, 0)) (PF BK458)) (below_size PB)); replace BK458 := kf BK458 hb; replace BK459 := kf BK459 hb; replace BK467 := kp (cs' := #[.int .i64 t460, .slice Ao14 t461.length co14, .int .i64 t464, .int .i64 t465, .int .i64 t466]) BK467 hb; replace HB := bs HB hb; clear hb ho17))
 go_loopg [9] k (fun kq v9 w' => ∃ (x9_1 : List (S26)) (x468000_1 : Int) (x468001_1 : List Int) (x468002_1 : Int) (x468003_1 : Int) (x468004_1 : Int) (u468001 : Value), Aside0 (impl_FollowAt.l0 kq l0 a2 x9_1 x468000_1 x468001_1 x468002_1 x468003_1 x468004_1 = some (r1, r2, r3, r4, r5, r6)) ∧ Aside0 (kq ≤ k) ∧ Aside0 (Kd.R k26 26 w' w.heap.size (fun k_ => k_ ≠ gb458) v9 x9_1) ∧ Aside0 (Kd.R (Kd.int .i64) 3 w' w.heap.size (fun _ => True) u468001 x468001_1) ∧ Aside0 (w'.heap[gb458]? = some (.cells #[.int .i64 a1_0, .int .i64 a1_1, .int .i64 a1_2] 26 (0, 0))) ∧ Aside0 (w'.heap[gb459]? = some (.cells #[.int .i64 0, (.slice none 0 0), .int .i64 0, .int .i64 0, .int .i64 0] 38 (0, 0))) ∧ Aside0 (w'.heap[gb467]? = some (.cells #[.int .i64 x468000_1, u468001, .int .i64 x468002_1, .int .i64 x468003_1, .int .i64 x468004_1] 38 (0, 0))) ∧ Aside0 (Below w.heap.size w w'))
 case atStart => exact ⟨(y468), (t460), (t461), (t464), (t465), (t466), (.slice Ao14 t461.length co14), H', ⟨Nat.le_refl _⟩, ⟨RX HO470.out FK⟩, ⟨PR HO463⟩, ⟨PK BK458⟩, ⟨PK BK459⟩, ⟨PK BK467⟩, ⟨PB⟩⟩
 case round =>
  clear H'
  (try clear c1); (try clear p2); (try clear c3); (try clear c7); (try clear c8); (try clear c11); (try clear c12); (try clear c13); (try clear hcz13_0); (try clear hcz13_1); (try clear hcz13_2); (try clear hcz13_3); (try clear hcz13_4); (try clear hcz15_0); (try clear hcz15_1); (try clear hcz15_2); (try clear hcz8_0); (try clear hcz8_1); (try clear hcz8_2); (try clear hfz13_0); (try clear hfz13_1); (try clear hfz13_2); (try clear hfz13_3); (try clear hfz13_4); (try clear hfz15_0); (try clear hfz15_1); (try clear hfz15_2); (try clear hfz8_0); (try clear hfz8_1); (try clear hfz8_2)
  obtain ⟨x9_1, x468000_1, x468001_1, x468002_1, x468003_1, x468004_1, u468001, HA, HK1, HO_9, HO_468001, BK458, BK459, BK467, HB⟩ := hrel
  cases gk with
  | zero => exact absurd HA.out (by simp [impl_FollowAt.l0])
  | succ k1 =>
   have H := HA.out
   clear HA
   simp only [impl_FollowAt.l0] at H
   by_cases c18 : x468000_1 = 3
   ·rw [if_pos c18] at H
    have c18b0 : (x468000_1 == 3) = true := beq_iff_eq.mpr c18
    have c18b1 : (x468000_1 != 3) = false := bne_eq_false_iff_eq.mpr c18
    clear c18
    by_cases c19 : (x9_1.length : Int) ≤ 4
    ·rw [if_pos c19] at H
     have c19b0 : decide ((x9_1.length : Int) ≤ 4) = true := decide_eq_true c19
     have c19b1 : decide (x9_1.length ≤ 4) = true := decide_eq_true (by omega)
     clear c19
     replace H := Option.bind_eq_some_iff.mp H
     obtain ⟨t471, A200, H⟩ := H
     replace H : (if t471 = true then (some (x468000_1, x468001_1, x468002_1, x468003_1, x468004_1, x9_1)) else (if x9_1.length < 5864062014805 then ((impl_AnswerAt.f k1 l0 x468002_1 x468003_1 x468004_1 a2).bind fun bt475 => (impl_FollowAt.l0 k1 l0 a2 (x9_1 ++ [(⟨x468002_1, x468003_1, x468004_1⟩ : S26)]) bt475.1 bt475.2.1 bt475.2.2.1 bt475.2.2.2.1 bt475.2.2.2.2)) else (none))) = some (r1, r2, r3, r4, r5, r6) := H
     have A20 := Aside0.mk A200
     clear A200
     by_cases c21 : t471 = true
     ·subst c21
      have H1 : (some (x468000_1, x468001_1, x468002_1, x468003_1, x468004_1, x9_1)) = some (r1, r2, r3, r4, r5, r6) := by rw [if_pos rfl] at H; exact H
      clear H
      have H := H1
      clear H1
      simp only [Option.some.injEq, Prod.mk.injEq] at H
      obtain ⟨rfl, rfl, rfl, rfl, rfl, rfl⟩ := H
      have hnb22 := NB467_458.out
      have hnc22 := NB458_467.out
      have hnb23 := NB467_459.out
      have hnc23 := NB459_467.out
      obtain ⟨_, _, _, _, _, _, _, _, _, _⟩ := bc5 BK467
      obtain ⟨Ao25, co25, eo25⟩ := Kd.R_slice HO_9.out
      subst eo25
      go_wp2_with (first | (go_at_call 139; (with_reducible refine (impl_Address_139.calls k1 _ _ x9_1 x468002_1 x468003_1 x468004_1 true _ ?side1 ?side2 A20.out).mono ?_); (case side1 => exact CR ((Kd.R_reads' HO_9.out).2.2)); (case side2 => exact (Kd.R_reads' HO_9.out).2.1); rintro e w26 ⟨rfl, hb⟩; replace HO_9 := Rb HO_9 hb; replace HO_468001 := Rb HO_468001 hb; replace BK458 := kf BK458 hb; replace BK459 := kf BK459 hb; replace BK467 := kf BK467 hb; replace HB := bs HB hb; (try clear hb); (try clear hb2); (try clear hk); (try clear hi); obtain ⟨hcz27_0, hcz27_1, hcz27_2, hcz27_3, hcz27_4, hfz27_0, hfz27_1, hfz27_2, hfz27_3, hfz27_4⟩ := bc5 BK467; have hnb28 := NB459_458.out; have hnc28 := NB458_459.out; obtain ⟨_, _, _, _, _, _, _, _, _, _⟩ := bc5 BK459; obtain ⟨Ao30, co30, eo30⟩ := Kd.R_slice HO_468001.out; subst eo30))
      refine bodyPost_ret (results_ct rfl _ _ gb459 38 #[.int .i64 x468000_1, .slice Ao30 x468001_1.length co30, .int .i64 x468002_1, .int .i64 x468003_1, .int .i64 x468004_1] (0, 0) _ rfl (PX BK459) Try.underlying38 rfl KR) rfl ?_
      exact ⟨_, _, RT, RX (Rt HO_468001.out BK459) (fun _ hk => trivial), RX (Rt HO_9.out BK459) (fun _ hk => trivial), PB⟩
     ·replace c21 := Bool.eq_false_iff.mpr c21
      subst c21
      have H1 : (if x9_1.length < 5864062014805 then ((impl_AnswerAt.f k1 l0 x468002_1 x468003_1 x468004_1 a2).bind fun bt475 => (impl_FollowAt.l0 k1 l0 a2 (x9_1 ++ [(⟨x468002_1, x468003_1, x468004_1⟩ : S26)]) bt475.1 bt475.2.1 bt475.2.2.1 bt475.2.2.2.1 bt475.2.2.2.2)) else (none)) = some (r1, r2, r3, r4, r5, r6) := by rw [if_neg (show ¬ (false = true) by decide)] at H; exact H
      clear H
      have H := H1
      clear H1
      by_cases c31 : x9_1.length < 5864062014805
      ·rw [if_pos c31] at H
       have LMc31 := Aside0.mk c31
       clear c31
       obtain ⟨y472, hy472⟩ : ∃ y_ : List (S26), y_ = (x9_1 ++ [(⟨x468002_1, x468003_1, x468004_1⟩ : S26)]) := ⟨_, rfl⟩
       replace H : ((impl_AnswerAt.f k1 l0 x468002_1 x468003_1 x468004_1 a2).bind fun bt475 => (impl_FollowAt.l0 k1 l0 a2 y472 bt475.1 bt475.2.1 bt475.2.2.1 bt475.2.2.2.1 bt475.2.2.2.2)) = some (r1, r2, r3, r4, r5, r6) := by first | (rw [hy472]; with_reducible exact H) | (have H2_ := (Option.bind_some _ _).symm.trans H; rw [hy472]; with_reducible exact H2_) | (have H2_ := (Option.bind_some _ _).symm.trans H; with_reducible exact H2_) | with_reducible exact H | (rw [hy472]; exact H) | exact H
       have Ny472 := Aside0.mk hy472
       clear hy472
       replace H := Option.bind_eq_some_iff.mp H
       obtain ⟨⟨t475, t476, t479, t480, t481⟩, A320, H⟩ := H
       replace H : (impl_FollowAt.l0 k1 l0 a2 y472 t475 t476 t479 t480 t481) = some (r1, r2, r3, r4, r5, r6) := H
       have A32 := Aside0.mk A320
       clear A320
       have H' := Aside0.mk H
       clear H
       have hnb33 := NB467_458.out
       have hnc33 := NB458_467.out
       have hnb34 := NB467_459.out
       have hnc34 := NB459_467.out
       obtain ⟨_, _, _, _, _, _, _, _, _, _⟩ := bc5 BK467
       obtain ⟨Ao36, co36, eo36⟩ := Kd.R_slice HO_9.out
       subst eo36
       go_wp2_with (first | (go_at_call 139; (with_reducible refine (impl_Address_139.calls k1 _ _ x9_1 x468002_1 x468003_1 x468004_1 false _ ?side1 ?side2 A20.out).mono ?_); (case side1 => exact CR ((Kd.R_reads' HO_9.out).2.2)); (case side2 => exact (Kd.R_reads' HO_9.out).2.1); rintro e w37 ⟨rfl, hb⟩; replace HO_9 := Rb HO_9 hb; replace HO_468001 := Rb HO_468001 hb; replace BK458 := kf BK458 hb; replace BK459 := kf BK459 hb; replace BK467 := kf BK467 hb; replace HB := bs HB hb; (try clear hb); (try clear hb2); (try clear hk); (try clear hi); obtain ⟨_, _, _, _, _, _, _, _, _, _⟩ := bc5 BK467) | ((with_reducible refine gate_builtin (b := .append) (xs := #[.tmp 31, .tmp 34]) rfl ?_); (try (refine gate_guard (by rfl) ?_; dsimp only)); at_builtin; refine Kd.R_append k26 (w0 := w) w.heap.size rfl (.tmp 31) (.tmp 34) 66 26 (.agg #[(.int .i64 0), (.int .i64 0), (.int .i64 0)]) 24 rfl Try.underlying66 info26 rfl (by decide) (by omega) (.slice Ao36 x9_1.length co36) x9_1 (⟨x468002_1, x468003_1, x468004_1⟩ : S26) [.int .i64 x468002_1, .int .i64 x468003_1, .int .i64 x468004_1] (fun k_ => k_ ≠ gb458) (fun _ => False) rfl rfl ?aP (fun _ hk => hk.elim) ?aF ?aO ?aB ?aS ?aL ?_; (case aP => exact k26_mkM _ _ _ (⟨x468002_1, x468003_1, x468004_1⟩ : S26)); (case aB => exact PB); (case aF => exact (fun k_ hk => Kd.freshB (g := gb458) (o := .cells #[.int .i64 a1_0, .int .i64 a1_1, .int .i64 a1_2] 26 (0, 0)) (PK BK458) k_ hk)); (case aO => exact (PR HO_9)); (case aS => exact (below_size PB)); (case aL => have := LMc31.out; omega); intro v473 w39 ho hb hg hat; rw [← Ny472.out] at ho; replace HO_468001 := ak (Kd.R_over' (PR HO_468001) (Kd.R_typed (PR HO_9)) (by decide) hg); replace BK458 := ak (blk_grown (g := gb458) (o := .cells #[.int .i64 a1_0, .int .i64 a1_1, .int .i64 a1_2] 26 (0, 0)) (PK BK458) hg (Kd.R_away HO_9.out (fun _ hk => hk))); replace BK459 := ak (blk_grown (g := gb459) (o := .cells #[.int .i64 0, .slice none 0 0, .int .i64 0, .int .i64 0, .int .i64 0] 38 (0, 0)) (PK BK459) hg (Kd.R_ne HO_9.out BK459.out (by decide))); replace BK467 := ak (blk_grown (g := gb467) (o := .cells #[.int .i64 x468000_1, u468001, .int .i64 x468002_1, .int .i64 x468003_1, .int .i64 x468004_1] 38 (0, 0)) (PK BK467) hg (Kd.R_ne HO_9.out BK467.out (by decide))); replace HB := ak hb; have HO474 := ak (ho); clear HO_9; clear ho hb hg hat; obtain ⟨hcz40_0, hcz40_1, hcz40_2, hcz40_3, _, hfz40_0, hfz40_1, hfz40_2, hfz40_3, _⟩ := bc5 BK467) | ((with_reducible refine gate_callee (f := 138) rfl ?_); refine goesL_ (some 40) rfl rfl Try.func138 KR rfl #[.slice A0 l0.length c0, .agg #[.int .i64 x468002_1, .int .i64 x468003_1, .int .i64 x468004_1], .int .i64 a2] rfl AR ?_; (with_reducible refine (impl_AnswerAt.calls k1 _ _ l0 x468002_1 x468003_1 x468004_1 a2 t475 t476 t479 t480 t481 _ ?side1 ?side2 A32.out).mono ?_); (case side1 => exact CR (Kd.C_below HR0.out HB.out)); (case side2 => exact HC0.out); rintro e w41 ⟨v477, rfl, ho0, hb⟩; refine ⟨_, rfl, ?_⟩; replace HO474 := Rb HO474 hb; have HO478 := Rn1 ho0 HB HO_468001; replace HO_468001 := ak (Kd.R_elder' (PR HO_468001) (Kd.R_base ho0) hb); replace BK458 := kf BK458 hb; replace BK459 := kf BK459 hb; replace BK467 := kf BK467 hb; replace HB := bs HB hb; (try clear hb); (try clear hb2); (try clear hk); (try clear hi); (try clear ho0); obtain ⟨_, _, _, _, _, _, _, _, _, _⟩ := bc5 BK467; obtain ⟨Ao43, co43, eo43⟩ := Kd.R_slice HO478.out; subst eo43))
       go_roundg k1
       case measure => have := HK1.out; omega
       case rel => exact ⟨(y472), (t475), (t476), (t479), (t480), (t481), (.slice Ao43 t476.length co43), H', ⟨by have := HK1.out; omega⟩, ⟨Re1 HO474 BK467⟩, ⟨RX (Rt HO478.out BK467) (fun _ hk => trivial)⟩, ⟨PF BK458⟩, ⟨PF BK459⟩, ⟨PX BK467⟩, ⟨PB⟩⟩
      ·rw [if_neg c31] at H
       exact absurd H (by simp)
    ·rw [if_neg c19] at H
     have c19b0 : decide ((x9_1.length : Int) ≤ 4) = false := decide_eq_false c19
     have c19b1 : decide (x9_1.length ≤ 4) = false := decide_eq_false (by omega)
     clear c19
     simp only [Option.some.injEq, Prod.mk.injEq] at H
     obtain ⟨rfl, rfl, rfl, rfl, rfl, rfl⟩ := H
     have hnb44 := NB467_458.out
     have hnc44 := NB458_467.out
     have hnb45 := NB467_459.out
     have hnc45 := NB459_467.out
     obtain ⟨_, _, _, _, _, _, _, _, _, _⟩ := bc5 BK467
     obtain ⟨Ao47, co47, eo47⟩ := Kd.R_slice HO_9.out
     subst eo47
     have hnb48 := NB459_458.out
     have hnc48 := NB458_459.out
     obtain ⟨_, _, _, _, _, _, _, _, _, _⟩ := bc5 BK459
     obtain ⟨Ao50, co50, eo50⟩ := Kd.R_slice HO_468001.out
     subst eo50
     go_wp2
     refine bodyPost_ret (results_ct rfl _ _ gb459 38 #[.int .i64 x468000_1, .slice Ao50 x468001_1.length co50, .int .i64 x468002_1, .int .i64 x468003_1, .int .i64 x468004_1] (0, 0) _ rfl (PX BK459) Try.underlying38 rfl KR) rfl ?_
     exact ⟨_, _, RT, RX (Rt HO_468001.out BK459) (fun _ hk => trivial), RX (Rt HO_9.out BK459) (fun _ hk => trivial), PB⟩
   ·rw [if_neg c18] at H
    have c18b0 : (x468000_1 == 3) = false := beq_eq_false_iff_ne.mpr c18
    have c18b1 : (x468000_1 != 3) = true := bne_iff_ne.mpr c18
    simp only [Option.some.injEq, Prod.mk.injEq] at H
    obtain ⟨rfl, rfl, rfl, rfl, rfl, rfl⟩ := H
    have hnb51 := NB467_458.out
    have hnc51 := NB458_467.out
    have hnb52 := NB467_459.out
    have hnc52 := NB459_467.out
    obtain ⟨_, _, _, _, _, _, _, _, _, _⟩ := bc5 BK467
    have hnb54 := NB459_458.out
    have hnc54 := NB458_459.out
    obtain ⟨hcz55_0, hcz55_1, hcz55_2, hcz55_3, _, hfz55_0, hfz55_1, hfz55_2, hfz55_3, _⟩ := bc5 BK459
    obtain ⟨Ao56, co56, eo56⟩ := Kd.R_slice HO_468001.out
    subst eo56
    go_wp2
    refine bodyPost_ret (results_ct rfl _ _ gb459 38 #[.int .i64 x468000_1, .slice Ao56 x468001_1.length co56, .int .i64 x468002_1, .int .i64 x468003_1, .int .i64 x468004_1] (0, 0) _ rfl (PX BK459) Try.underlying38 rfl KR) rfl ?_
    exact ⟨_, _, RT, RX (Rt HO_468001.out BK459) (fun _ hk => trivial), RX (Rt HO_9.out BK459) (fun _ hk => trivial), PB⟩

/-! ### impl_Mod: function 87 -/
def impl_Mod.f (a0 : Int) (a1 : Int) : Option (Int) := (impl_InRange.f a1 1 1000000000000).bind fun t482 => (if t482 = true then (if a1 = 0 then (none) else (some (Int.tmod (wrap64 ((Int.tmod a0 a1) + a1)) a1))) else (some 0))
set_option maxHeartbeats 8000000 in
set_option maxRecDepth 100000 in
theorem impl_Mod.calls (a0 : Int) (a1 : Int) (r : Int) (w : World) (h : impl_Mod.f a0 a1 = some r) :
  Calls Try.prog 87 #[.int .i64 a0, .int .i64 a1] w fun e w' => e = .returned (.int .i64 r) ∧ Drawn0 w w' := by
 have H : ((impl_InRange.f a1 1 1000000000000).bind fun t482 => (if t482 = true then (if a1 = 0 then (none) else (some (Int.tmod (wrap64 ((Int.tmod a0 a1) + a1)) a1))) else (some 0))) = some r := h
 clear h
 replace H := Option.bind_eq_some_iff.mp H
 obtain ⟨t482, A30, H⟩ := H
 replace H : (if t482 = true then (if a1 = 0 then (none) else (some (Int.tmod (wrap64 ((Int.tmod a0 a1) + a1)) a1))) else (some 0)) = some r := H
 have A3 := Aside0.mk A30
 clear A30
 by_cases c4 : t482 = true
 ·subst c4
  have H1 : (if a1 = 0 then (none) else (some (Int.tmod (wrap64 ((Int.tmod a0 a1) + a1)) a1))) = some r := by rw [if_pos rfl] at H; exact H
  clear H
  have H := H1
  clear H1
  by_cases c5 : a1 = 0
  ·rw [if_pos c5] at H
   exact absurd H (by simp)
  ·rw [if_neg c5] at H
   have c5b0 : (a1 == 0) = false := beq_eq_false_iff_ne.mpr c5
   have c5b1 : (a1 != 0) = true := bne_iff_ne.mpr c5
   obtain rfl := Option.some.inj H
   go_enter Try.func87, Try.ntmps87
   go_wp2_with (first | ((with_reducible refine gate_callee (f := 69) rfl ?_); refine goesL_ (some 6) rfl rfl Try.func69 KR rfl #[.int .i64 a1, .int .i64 1, .int .i64 1000000000000] rfl AR ?_; (with_reducible refine (impl_InRange.calls a1 1 1000000000000 true _ A3.out).mono ?_); rintro e w' ⟨rfl, ⟨nd, rfl⟩⟩; refine ⟨_, rfl, ?_⟩))
   go_ret
   exact ⟨by first | rfl | (simp; done) | (simp [*]; done), by repeat (first | exact Drawn0.refl _ | apply Drawn0.step)⟩
 ·replace c4 := Bool.eq_false_iff.mpr c4
  subst c4
  have H1 : (some 0) = some r := by rw [if_neg (show ¬ (false = true) by decide)] at H; exact H
  clear H
  have H := H1
  clear H1
  obtain rfl := Option.some.inj H
  go_enter Try.func87, Try.ntmps87
  go_wp2_with (first | ((with_reducible refine gate_callee (f := 69) rfl ?_); refine goesL_ (some 6) rfl rfl Try.func69 KR rfl #[.int .i64 a1, .int .i64 1, .int .i64 1000000000000] rfl AR ?_; (with_reducible refine (impl_InRange.calls a1 1 1000000000000 false _ A3.out).mono ?_); rintro e w' ⟨rfl, ⟨nd, rfl⟩⟩; refine ⟨_, rfl, ?_⟩))
  go_ret
  exact ⟨by first | rfl | (simp; done) | (simp [*]; done), by repeat (first | exact Drawn0.refl _ | apply Drawn0.step)⟩

/-! ### impl_Hash: function 88 -/
def impl_Hash.l0 : Nat → Int → List Int → Int → Int → Option (Int)
  | 0, _, _, _, _ => none
  | k + 1, x3, x6, x7, x8 => if x8 < x7 then (if 0 ≤ x8 then (if x8 < (x6.length : Int) then ((impl_Mod.f (rd x6 x8) 2147483647).bind fun t484 => (impl_Hash.l0 k (Int.tmod (wrap64 ((wrap64 ((wrap64 (x3 * 1000003)) + t484)) + 13)) 2147483647) x6 x7 (wrap64 (x8 + 1)))) else (none)) else (none)) else (some x3)
def impl_Hash.f (k : Nat) (l0 : List Int) : Option (Int) := impl_Hash.l0 k 11 l0 (l0.length : Int) 0
set_option maxHeartbeats 8000000 in
set_option maxRecDepth 100000 in
theorem impl_Hash.calls (k : Nat) (A0 : Option Addr) (c0 : Nat) (l0 : List Int) (r : Int) (w : World) (hr0 : Kd.C (Kd.int .i64) w A0 l0.length l0) (hc0 : l0.length ≤ c0) (h : impl_Hash.f k l0 = some r) :
  Calls Try.prog 88 #[.slice A0 l0.length c0] w fun e w' => e = .returned (.int .i64 r) ∧ Drawn0 w w' := by
 have HR0 := Aside0.mk hr0
 have HC0 := Aside0.mk hc0
 clear hr0 hc0
 have H : (impl_Hash.l0 k 11 l0 (l0.length : Int) 0) = some r := h
 clear h
 have H' := Aside0.mk H
 clear H
 go_enter Try.func88, Try.ntmps88
 go_wp2
 go_loopg [3, 8] k (fun kq v3 v8 w' => ∃ (x3_1 : Int) (x8_1 : Int), v3 = .int .i64 x3_1 ∧ v8 = .int .i64 x8_1 ∧ Aside0 (impl_Hash.l0 kq x3_1 l0 (l0.length : Int) x8_1 = some r) ∧ Aside0 (kq ≤ k) ∧ Drawn0 w w')
 case atStart => exact ⟨(11), (0), (by first | rfl | (simp; done) | (simp [*]; done)), (by first | rfl | (simp; done) | (simp [*]; done)), H', ⟨Nat.le_refl _⟩, by repeat (first | exact Drawn0.refl _ | apply Drawn0.step)⟩
 case round =>
  clear H'
  obtain ⟨x3_1, x8_1, rfl, rfl, HA, HK1, ⟨m1, rfl⟩⟩ := hrel
  cases gk with
  | zero => exact absurd HA.out (by simp [impl_Hash.l0])
  | succ k1 =>
   have H := HA.out
   clear HA
   simp only [impl_Hash.l0] at H
   by_cases c2 : x8_1 < (l0.length : Int)
   ·rw [if_pos c2] at H
    have c2b0 : decide (x8_1 < (l0.length : Int)) = true := decide_eq_true c2
    clear c2
    by_cases c3 : 0 ≤ x8_1
    ·rw [if_pos c3] at H
     have c3b0 : decide (0 ≤ x8_1) = true := decide_eq_true c3
     clear c3
     by_cases c4 : x8_1 < (l0.length : Int)
     ·rw [if_pos c4] at H
      have c4b0 : decide (x8_1 < (l0.length : Int)) = true := decide_eq_true c4
      clear c4
      replace H := Option.bind_eq_some_iff.mp H
      obtain ⟨t484, A50, H⟩ := H
      replace H : (impl_Hash.l0 k1 (Int.tmod (wrap64 ((wrap64 ((wrap64 (x3_1 * 1000003)) + t484)) + 13)) 2147483647) l0 (l0.length : Int) (wrap64 (x8_1 + 1))) = some r := H
      have A5 := Aside0.mk A50
      clear A50
      have H' := Aside0.mk H
      clear H
      have p483 : 0 ≤ (x8_1 : Int) := of_decide_eq_true (by first | (with_reducible assumption) | assumption)
      have q483 : x8_1 < (l0.length : Int) := of_decide_eq_true (by first | (with_reducible assumption) | assumption)
      obtain ⟨ad483, e483, hx483_0⟩ := Kd.at_int HR0.out x8_1 p483 q483
      cases e483
      replace p483 := eq_true p483
      replace q483 := eq_true q483
      go_wp2_with (first | ((with_reducible refine gate_callee (f := 87) rfl ?_); refine goesL_ (some 15) rfl rfl Try.func87 KR rfl #[.int .i64 (rd l0 x8_1), .int .i64 2147483647] rfl AR ?_; (with_reducible refine (impl_Mod.calls (rd l0 x8_1) 2147483647 t484 _ A5.out).mono ?_); rintro e w' ⟨rfl, ⟨nd, rfl⟩⟩; refine ⟨_, rfl, ?_⟩))
      go_roundg k1
      case measure => have := HK1.out; omega
      case rel => exact ⟨(Int.tmod (wrap64 ((wrap64 ((wrap64 (x3_1 * 1000003)) + t484)) + 13)) 2147483647), (wrap64 (x8_1 + 1)), (by first | rfl | (simp; done) | (simp [*]; done)), (by first | rfl | (simp; done) | (simp [*]; done)), H', ⟨by have := HK1.out; omega⟩, by repeat (first | exact Drawn0.refl _ | apply Drawn0.step)⟩
     ·rw [if_neg c4] at H
      exact absurd H (by simp)
    ·rw [if_neg c3] at H
     exact absurd H (by simp)
   ·rw [if_neg c2] at H
    have c2b0 : decide (x8_1 < (l0.length : Int)) = false := decide_eq_false c2
    clear c2
    obtain rfl := Option.some.inj H
    go_wp2
    go_ret
    exact ⟨by first | rfl | (simp; done) | (simp [*]; done), by repeat (first | exact Drawn0.refl _ | apply Drawn0.step)⟩

/-! ### impl_LiveValue: function 30 -/
def impl_LiveValue.j0 : Nat → Int → Bool → List (S169) → Int → Int → List Int → Int → Int → Int → Int → Option (Int)
  | 0, _, _, _, _, _, _, _, _, _, _ => none
  | k + 1, x2, x16, x486000, x486001, x486002, x486003, x487000, x487001, x487002, x487003 => if x16 = true then (some 0) else (if x487000 = 1 then ((impl_FollowAt.f k x486000 x487001 x487002 x487003 (wrap64 (x486001 + x2))).bind fun bt489 => ((impl_ValueOfResource.f k bt489.1 bt489.2.1 bt489.2.2.1 bt489.2.2.2.1 bt489.2.2.2.2.1).bind fun t500 => (some t500))) else (if x487000 = 2 then (some (mn 999 (wrap64 (x486001 + x2)))) else (if x487000 = 3 then ((impl_Hash.f k (([x486002, x2] : List Int))).bind fun t504 => ((impl_Mod.f t504 1000).bind fun t505 => (some t505))) else (if x487000 = 4 then (if (x486003.length : Int) > 0 then (if (x486003.length : Int) = 0 then (none) else (if 0 ≤ (Int.tmod x2 (x486003.length : Int)) then (if (Int.tmod x2 (x486003.length : Int)) < (x486003.length : Int) then (some (rd x486003 (Int.tmod x2 (x486003.length : Int)))) else (none)) else (none))) else (some 0)) else (some 0)))))
def impl_LiveValue.f (k : Nat) (l0_0 : List (S169)) (a0_1 : Int) (a0_2 : Int) (l0_3 : List Int) (a1_0 : Int) (a1_1 : Int) (a1_2 : Int) (a1_3 : Int) (a2 : Int) : Option (Int) := (impl_IsVisit.f k l0_0 a0_1 a0_2 l0_3).bind fun t487 => (if t487 = true then ((impl_InRange.f a2 0 100).bind fun t488 => (impl_LiveValue.j0 k a2 (!t488) l0_0 a0_1 a0_2 l0_3 a1_0 a1_1 a1_2 a1_3)) else (impl_LiveValue.j0 k a2 true l0_0 a0_1 a0_2 l0_3 a1_0 a1_1 a1_2 a1_3))
set_option maxHeartbeats 8000000 in
set_option maxRecDepth 100000 in
theorem impl_LiveValue.calls (k : Nat) (A0_0 : Option Addr) (c0_0 : Nat) (l0_0 : List (S169)) (a0_1 : Int) (a0_2 : Int) (A0_3 : Option Addr) (c0_3 : Nat) (l0_3 : List Int) (a1_0 : Int) (a1_1 : Int) (a1_2 : Int) (a1_3 : Int) (a2 : Int) (r : Int) (w : World) (hr0_0 : Kd.C k169 w A0_0 l0_0.length l0_0) (hc0_0 : l0_0.length ≤ c0_0) (hr0_3 : Kd.C (Kd.int .i64) w A0_3 l0_3.length l0_3) (hc0_3 : l0_3.length ≤ c0_3) (h : impl_LiveValue.f k l0_0 a0_1 a0_2 l0_3 a1_0 a1_1 a1_2 a1_3 a2 = some r) :
  Calls Try.prog 30 #[.agg #[.slice A0_0 l0_0.length c0_0, .int .i64 a0_1, .int .i64 a0_2, .slice A0_3 l0_3.length c0_3], .agg #[.int .i64 a1_0, .int .i64 a1_1, .int .i64 a1_2, .int .i64 a1_3], .int .i64 a2] w fun e w' => e = .returned (.int .i64 r) ∧ Below w.heap.size w w' := by
 have hu61 := Try.underlying61
 have hu50 := Try.underlying50
 have hu26 := Try.underlying26
 have hu38 := Try.underlying38
 have HR0_0 := Aside0.mk hr0_0
 have HC0_0 := Aside0.mk hc0_0
 clear hr0_0 hc0_0
 have HR0_3 := Aside0.mk hr0_3
 have HC0_3 := Aside0.mk hc0_3
 clear hr0_3 hc0_3
 have HB := ak (Below.refl w.heap.size w)
 have H : ((impl_IsVisit.f k l0_0 a0_1 a0_2 l0_3).bind fun t487 => (if t487 = true then ((impl_InRange.f a2 0 100).bind fun t488 => (impl_LiveValue.j0 k a2 (!t488) l0_0 a0_1 a0_2 l0_3 a1_0 a1_1 a1_2 a1_3)) else (impl_LiveValue.j0 k a2 true l0_0 a0_1 a0_2 l0_3 a1_0 a1_1 a1_2 a1_3))) = some r := h
 clear h
 have HC4 := Aside0.mk H
 clear H
 go_enter Try.func30, Try.ntmps30
 go_upto_region 1 with (first | ((with_reducible refine gate_dst (N := 3) rfl ?_); refine bx_ (N := 3) #[.slice A0_0 l0_0.length c0_0, .int .i64 a0_1, .int .i64 a0_2, .slice A0_3 l0_3.length c0_3] 61 ?_; intro gb485 hg w5 hbox hb; have BK485 := ak hbox; have GW485 := gy hg HB; have GE485 := gy hg HB; replace HB := bs HB hb; clear hb hbox hg) | ((with_reducible refine gate_dst (N := 4) rfl ?_); refine bx_ (N := 4) #[.int .i64 a1_0, .int .i64 a1_1, .int .i64 a1_2, .int .i64 a1_3] 50 ?_; intro gb486 hg w6 hbox hb; have BK486 := ak hbox; have GW486 := gy hg HB; have GE486 := gy hg HB; replace HB := bs HB hb; have NB485_486 := gm hg BK485; have NB486_485 := gn hg BK485; replace BK485 := kf BK485 hb; clear hb hbox hg))
 repeat (go_quiet (first | ((with_reducible refine gate_dst (N := 3) rfl ?_); refine bx_ (N := 3) #[.slice A0_0 l0_0.length c0_0, .int .i64 a0_1, .int .i64 a0_2, .slice A0_3 l0_3.length c0_3] 61 ?_; intro gb485 hg w5 hbox hb; have BK485 := ak hbox; have GW485 := gy hg HB; have GE485 := gy hg HB; replace HB := bs HB hb; clear hb hbox hg) | ((with_reducible refine gate_dst (N := 4) rfl ?_); refine bx_ (N := 4) #[.int .i64 a1_0, .int .i64 a1_1, .int .i64 a1_2, .int .i64 a1_3] 50 ?_; intro gb486 hg w6 hbox hb; have BK486 := ak hbox; have GW486 := gy hg HB; have GE486 := gy hg HB; replace HB := bs HB hb; have NB485_486 := gm hg BK485; have NB486_485 := gn hg BK485; replace BK485 := kf BK485 hb; clear hb hbox hg)); go_upto_region 1 with (first | ((with_reducible refine gate_dst (N := 3) rfl ?_); refine bx_ (N := 3) #[.slice A0_0 l0_0.length c0_0, .int .i64 a0_1, .int .i64 a0_2, .slice A0_3 l0_3.length c0_3] 61 ?_; intro gb485 hg w5 hbox hb; have BK485 := ak hbox; have GW485 := gy hg HB; have GE485 := gy hg HB; replace HB := bs HB hb; clear hb hbox hg) | ((with_reducible refine gate_dst (N := 4) rfl ?_); refine bx_ (N := 4) #[.int .i64 a1_0, .int .i64 a1_1, .int .i64 a1_2, .int .i64 a1_3] 50 ?_; intro gb486 hg w6 hbox hb; have BK486 := ak hbox; have GW486 := gy hg HB; have GE486 := gy hg HB; replace HB := bs HB hb; have NB485_486 := gm hg BK485; have NB486_485 := gn hg BK485; replace BK485 := kf BK485 hb; clear hb hbox hg)))
 (try simp only [Act.put, List.setIfInBounds_toArray, List.set_cons_zero, List.set_cons_succ])
 go_cut [16] (fun v16 wc => ∃ (kq : Nat) (x16_3 : Bool), v16 = .bool x16_3 ∧ Aside0 (impl_LiveValue.j0 kq a2 x16_3 l0_0 a0_1 a0_2 l0_3 a1_0 a1_1 a1_2 a1_3 = some r) ∧ Aside0 (kq ≤ k) ∧ Aside0 (wc.heap[gb485]? = some (.cells #[(.slice A0_0 l0_0.length c0_0), .int .i64 a0_1, .int .i64 a0_2, (.slice A0_3 l0_3.length c0_3)] 61 (0, 0))) ∧ Aside0 (wc.heap[gb486]? = some (.cells #[.int .i64 a1_0, .int .i64 a1_1, .int .i64 a1_2, .int .i64 a1_3] 50 (0, 0))) ∧ Aside0 (Below w.heap.size w wc))
 case first =>
  have H := HC4.out
  clear HC4
  replace H := Option.bind_eq_some_iff.mp H
  obtain ⟨t487, A70, H⟩ := H
  replace H : (if t487 = true then ((impl_InRange.f a2 0 100).bind fun t488 => (impl_LiveValue.j0 k a2 (!t488) l0_0 a0_1 a0_2 l0_3 a1_0 a1_1 a1_2 a1_3)) else (impl_LiveValue.j0 k a2 true l0_0 a0_1 a0_2 l0_3 a1_0 a1_1 a1_2 a1_3)) = some r := H
  have A7 := Aside0.mk A70
  clear A70
  by_cases c8 : t487 = true
  ·subst c8
   have H1 : ((impl_InRange.f a2 0 100).bind fun t488 => (impl_LiveValue.j0 k a2 (!t488) l0_0 a0_1 a0_2 l0_3 a1_0 a1_1 a1_2 a1_3)) = some r := by rw [if_pos rfl] at H; exact H
   clear H
   have H := H1
   clear H1
   replace H := Option.bind_eq_some_iff.mp H
   obtain ⟨t488, A90, H⟩ := H
   replace H : (impl_LiveValue.j0 k a2 (!t488) l0_0 a0_1 a0_2 l0_3 a1_0 a1_1 a1_2 a1_3) = some r := H
   have A9 := Aside0.mk A90
   clear A90
   have H' := Aside0.mk H
   clear H
   have hnb10 := NB485_486.out
   have hnc10 := NB486_485.out
   obtain ⟨hcz11_0, hcz11_1, hcz11_2, hcz11_3, hfz11_0, hfz11_1, hfz11_2, hfz11_3⟩ := bc4 BK485
   go_wp2_with (first | (go_at_call 31; (with_reducible refine (impl_IsVisit.calls k _ _ l0_0 a0_1 a0_2 _ _ l0_3 true _ ?side1 ?side2 ?side3 ?side4 A7.out).mono ?_); (case side1 => exact CR (Kd.C_below HR0_0.out HB.out)); (case side2 => exact HC0_0.out); (case side3 => exact CR (Kd.C_below HR0_3.out HB.out)); (case side4 => exact HC0_3.out); rintro e w12 ⟨rfl, hb⟩; replace BK485 := kf BK485 hb; replace BK486 := kf BK486 hb; replace HB := bs HB hb; (try clear hb); (try clear hb2); (try clear hk); (try clear hi)) | (go_at_call 69; (with_reducible refine (impl_InRange.calls a2 0 100 t488 _ A9.out).mono ?_); rintro e w' ⟨rfl, ⟨nd, rfl⟩⟩; (try first | exact ⟨rfl, _, World.drewN_drewN _ _ _⟩ | exact ⟨rfl, _, Eq.trans (World.drewN_drewN _ _ _) (congrArg (World.drewN _) (Nat.add_assoc _ _ _))⟩)))
   repeat (go_quiet (first | (go_at_call 31; (with_reducible refine (impl_IsVisit.calls k _ _ l0_0 a0_1 a0_2 _ _ l0_3 true _ ?side1 ?side2 ?side3 ?side4 A7.out).mono ?_); (case side1 => exact CR (Kd.C_below HR0_0.out HB.out)); (case side2 => exact HC0_0.out); (case side3 => exact CR (Kd.C_below HR0_3.out HB.out)); (case side4 => exact HC0_3.out); rintro e w12 ⟨rfl, hb⟩; replace BK485 := kf BK485 hb; replace BK486 := kf BK486 hb; replace HB := bs HB hb; (try clear hb); (try clear hb2); (try clear hk); (try clear hi)) | (go_at_call 69; (with_reducible refine (impl_InRange.calls a2 0 100 t488 _ A9.out).mono ?_); rintro e w' ⟨rfl, ⟨nd, rfl⟩⟩; (try first | exact ⟨rfl, _, World.drewN_drewN _ _ _⟩ | exact ⟨rfl, _, Eq.trans (World.drewN_drewN _ _ _) (congrArg (World.drewN _) (Nat.add_assoc _ _ _))⟩))); try go_wp2_with (first | (go_at_call 31; (with_reducible refine (impl_IsVisit.calls k _ _ l0_0 a0_1 a0_2 _ _ l0_3 true _ ?side1 ?side2 ?side3 ?side4 A7.out).mono ?_); (case side1 => exact CR (Kd.C_below HR0_0.out HB.out)); (case side2 => exact HC0_0.out); (case side3 => exact CR (Kd.C_below HR0_3.out HB.out)); (case side4 => exact HC0_3.out); rintro e w12 ⟨rfl, hb⟩; replace BK485 := kf BK485 hb; replace BK486 := kf BK486 hb; replace HB := bs HB hb; (try clear hb); (try clear hb2); (try clear hk); (try clear hi)) | (go_at_call 69; (with_reducible refine (impl_InRange.calls a2 0 100 t488 _ A9.out).mono ?_); rintro e w' ⟨rfl, ⟨nd, rfl⟩⟩; (try first | exact ⟨rfl, _, World.drewN_drewN _ _ _⟩ | exact ⟨rfl, _, Eq.trans (World.drewN_drewN _ _ _) (congrArg (World.drewN _) (Nat.add_assoc _ _ _))⟩))))
   go_meet
   case rel => exact ⟨_, (!t488), (by first | rfl | (simp; done) | (simp [*]; done)), H', ⟨by first | omega | exact Nat.le_refl _⟩, ⟨PK BK485⟩, ⟨PK BK486⟩, ⟨PB⟩⟩
  ·replace c8 := Bool.eq_false_iff.mpr c8
   subst c8
   have H1 : (impl_LiveValue.j0 k a2 true l0_0 a0_1 a0_2 l0_3 a1_0 a1_1 a1_2 a1_3) = some r := by rw [if_neg (show ¬ (false = true) by decide)] at H; exact H
   clear H
   have H := H1
   clear H1
   have H' := Aside0.mk H
   clear H
   have hnb13 := NB485_486.out
   have hnc13 := NB486_485.out
   obtain ⟨hcz14_0, hcz14_1, hcz14_2, hcz14_3, hfz14_0, hfz14_1, hfz14_2, hfz14_3⟩ := bc4 BK485
   go_wp2_with (first | (go_at_call 31; (with_reducible refine (impl_IsVisit.calls k _ _ l0_0 a0_1 a0_2 _ _ l0_3 false _ ?side1 ?side2 ?side3 ?side4 A7.out).mono ?_); (case side1 => exact CR (Kd.C_below HR0_0.out HB.out)); (case side2 => exact HC0_0.out); (case side3 => exact CR (Kd.C_below HR0_3.out HB.out)); (case side4 => exact HC0_3.out); rintro e w15 ⟨rfl, hb⟩; replace BK485 := kf BK485 hb; replace BK486 := kf BK486 hb; replace HB := bs HB hb; (try clear hb); (try clear hb2); (try clear hk); (try clear hi)))
   repeat (go_quiet (first | (go_at_call 31; (with_reducible refine (impl_IsVisit.calls k _ _ l0_0 a0_1 a0_2 _ _ l0_3 false _ ?side1 ?side2 ?side3 ?side4 A7.out).mono ?_); (case side1 => exact CR (Kd.C_below HR0_0.out HB.out)); (case side2 => exact HC0_0.out); (case side3 => exact CR (Kd.C_below HR0_3.out HB.out)); (case side4 => exact HC0_3.out); rintro e w15 ⟨rfl, hb⟩; replace BK485 := kf BK485 hb; replace BK486 := kf BK486 hb; replace HB := bs HB hb; (try clear hb); (try clear hb2); (try clear hk); (try clear hi))); try go_wp2_with (first | (go_at_call 31; (with_reducible refine (impl_IsVisit.calls k _ _ l0_0 a0_1 a0_2 _ _ l0_3 false _ ?side1 ?side2 ?side3 ?side4 A7.out).mono ?_); (case side1 => exact CR (Kd.C_below HR0_0.out HB.out)); (case side2 => exact HC0_0.out); (case side3 => exact CR (Kd.C_below HR0_3.out HB.out)); (case side4 => exact HC0_3.out); rintro e w15 ⟨rfl, hb⟩; replace BK485 := kf BK485 hb; replace BK486 := kf BK486 hb; replace HB := bs HB hb; (try clear hb); (try clear hb2); (try clear hk); (try clear hi))))
   go_meet
   case rel => exact ⟨_, (true), (by first | rfl | (simp; done) | (simp [*]; done)), H', ⟨by first | omega | exact Nat.le_refl _⟩, ⟨PK BK485⟩, ⟨PK BK486⟩, ⟨PB⟩⟩
 case rest =>
  clear HC4
  (try clear c1); (try clear p2); (try clear c3); (try clear c8); (try clear c10); (try clear c13); (try clear hcz11_0); (try clear hcz11_1); (try clear hcz11_2); (try clear hcz11_3); (try clear hcz14_0); (try clear hcz14_1); (try clear hcz14_2); (try clear hcz14_3); (try clear hfz11_0); (try clear hfz11_1); (try clear hfz11_2); (try clear hfz11_3); (try clear hfz14_0); (try clear hfz14_1); (try clear hfz14_2); (try clear hfz14_3)
  obtain ⟨kq, x16_3, rfl, HA, HJ3, BK485, BK486, HB⟩ := hcut
  cases kq with
  | zero => exact absurd HA.out (by simp [impl_LiveValue.j0])
  | succ kj3 =>
   have H := HA.out
   clear HA
   simp only [impl_LiveValue.j0] at H
   by_cases c16 : x16_3 = true
   ·subst c16
    have H1 : (some 0) = some r := by rw [if_pos rfl] at H; exact H
    clear H
    have H := H1
    clear H1
    obtain rfl := Option.some.inj H
    go_wp2
    repeat (go_quiet (fail); try go_wp2)
    go_ret
    exact ⟨RT, PB⟩
   ·replace c16 := Bool.eq_false_iff.mpr c16
    subst c16
    have H1 : (if a1_0 = 1 then ((impl_FollowAt.f kj3 l0_0 a1_1 a1_2 a1_3 (wrap64 (a0_1 + a2))).bind fun bt489 => ((impl_ValueOfResource.f kj3 bt489.1 bt489.2.1 bt489.2.2.1 bt489.2.2.2.1 bt489.2.2.2.2.1).bind fun t500 => (some t500))) else (if a1_0 = 2 then (some (mn 999 (wrap64 (a0_1 + a2)))) else (if a1_0 = 3 then ((impl_Hash.f kj3 (([a0_2, a2] : List Int))).bind fun t504 => ((impl_Mod.f t504 1000).bind fun t505 => (some t505))) else (if a1_0 = 4 then (if (l0_3.length : Int) > 0 then (if (l0_3.length : Int) = 0 then (none) else (if 0 ≤ (Int.tmod a2 (l0_3.length : Int)) then (if (Int.tmod a2 (l0_3.length : Int)) < (l0_3.length : Int) then (some (rd l0_3 (Int.tmod a2 (l0_3.length : Int)))) else (none)) else (none))) else (some 0)) else (some 0))))) = some r := by rw [if_neg (show ¬ (false = true) by decide)] at H; exact H
    clear H
    have H := H1
    clear H1
    by_cases c17 : a1_0 = 1
    ·rw [if_pos c17] at H
     have c17b0 : (a1_0 == 1) = true := beq_iff_eq.mpr c17
     have c17b1 : (a1_0 != 1) = false := bne_eq_false_iff_eq.mpr c17
     clear c17
     replace H := Option.bind_eq_some_iff.mp H
     obtain ⟨⟨t489, t490, t493, t494, t495, t496⟩, A180, H⟩ := H
     replace H : ((impl_ValueOfResource.f kj3 t489 t490 t493 t494 t495).bind fun t500 => (some t500)) = some r := H
     have A18 := Aside0.mk A180
     clear A180
     replace H := Option.bind_eq_some_iff.mp H
     obtain ⟨t500, A190, H⟩ := H
     replace H : (some t500) = some r := H
     have A19 := Aside0.mk A190
     clear A190
     obtain rfl := Option.some.inj H
     have hnb20 := NB486_485.out
     have hnc20 := NB485_486.out
     obtain ⟨_, _, _, _, _, _, _, _⟩ := bc4 BK486
     obtain ⟨_, _, _, _, _, _, _, _⟩ := bc4 BK485
     go_wp2_with (first | (go_at_call 86; (with_reducible refine (impl_FollowAt.calls kj3 _ _ l0_0 a1_1 a1_2 a1_3 (wrap64 (a0_1 + a2)) t489 t490 t493 t494 t495 t496 _ ?side1 ?side2 A18.out).mono ?_); (case side1 => exact CR (Kd.C_below HR0_0.out HB.out)); (case side2 => exact HC0_0.out); rintro e w23 ⟨v491, v497, rfl, ho0, ho1, hb⟩; have HO492 := Rn0 ho0 HB; have HO498 := Rn0 ho1 HB; replace BK485 := kf BK485 hb; replace BK486 := kf BK486 hb; replace HB := bs HB hb; (try clear hb); (try clear hb2); (try clear hk); (try clear hi); (try clear ho0); (try clear ho1)) | ((with_reducible refine gate_dst (N := 7) rfl ?_); refine bx_ (N := 7) #[.int .i64 0, .slice none 0 0, .int .i64 0, .int .i64 0, .int .i64 0] 38 ?_; intro gb499 hg w24 hbox hb; replace HO492 := Rb HO492 hb; replace HO498 := Rb HO498 hb; have BK499 := ak hbox; have GW499 := gy hg HB; have GE499 := gy hg HB; replace HB := bs HB hb; have NB485_499 := gm hg BK485; have NB499_485 := gn hg BK485; replace BK485 := kf BK485 hb; have NB486_499 := gm hg BK486; have NB499_486 := gn hg BK486; replace BK486 := kf BK486 hb; clear hb hbox hg; have hnb25 := NB499_485.out; have hnc25 := NB485_499.out; have hnb26 := NB499_486.out; have hnc26 := NB486_499.out; obtain ⟨hcz27_0, hcz27_1, hcz27_2, hcz27_3, hcz27_4, hfz27_0, hfz27_1, hfz27_2, hfz27_3, hfz27_4⟩ := bc5 BK499; obtain ⟨Ao28, co28, eo28⟩ := Kd.R_slice HO492.out; subst eo28) | (go_at_call 35; (with_reducible refine (impl_ValueOfResource.calls kj3 t489 _ _ t490 t493 t494 t495 t500 _ ?side1 ?side2 A19.out).mono ?_); (case side1 => exact (Kd.R_reads' (Re1 HO492 BK499)).2.2); (case side2 => exact (Kd.R_reads' HO492.out).2.1); rintro e w29 ⟨rfl, hb⟩; replace HO492 := ak (Kd.R_below (Re1 HO492 BK499) hb); replace HO498 := ak (Kd.R_below (Re1 HO498 BK499) hb); replace BK485 := kf BK485 hb; replace BK486 := kf BK486 hb; replace BK499 := kp (cs' := #[.int .i64 t489, .slice Ao28 t490.length co28, .int .i64 t493, .int .i64 t494, .int .i64 t495]) BK499 hb; replace HB := bs HB hb; (try clear hb); (try clear hb2); (try clear hk); (try clear hi)))
     repeat (go_quiet (first | (go_at_call 86; (with_reducible refine (impl_FollowAt.calls kj3 _ _ l0_0 a1_1 a1_2 a1_3 (wrap64 (a0_1 + a2)) t489 t490 t493 t494 t495 t496 _ ?side1 ?side2 A18.out).mono ?_); (case side1 => exact CR (Kd.C_below HR0_0.out HB.out)); (case side2 => exact HC0_0.out); rintro e w23 ⟨v491, v497, rfl, ho0, ho1, hb⟩; have HO492 := Rn0 ho0 HB; have HO498 := Rn0 ho1 HB; replace BK485 := kf BK485 hb; replace BK486 := kf BK486 hb; replace HB := bs HB hb; (try clear hb); (try clear hb2); (try clear hk); (try clear hi); (try clear ho0); (try clear ho1)) | ((with_reducible refine gate_dst (N := 7) rfl ?_); refine bx_ (N := 7) #[.int .i64 0, .slice none 0 0, .int .i64 0, .int .i64 0, .int .i64 0] 38 ?_; intro gb499 hg w24 hbox hb; replace HO492 := Rb HO492 hb; replace HO498 := Rb HO498 hb; have BK499 := ak hbox; have GW499 := gy hg HB; have GE499 := gy hg HB; replace HB := bs HB hb; have NB485_499 := gm hg BK485; have NB499_485 := gn hg BK485; replace BK485 := kf BK485 hb; have NB486_499 := gm hg BK486; have NB499_486 := gn hg BK486; replace BK486 := kf BK486 hb; clear hb hbox hg; have hnb25 := NB499_485.out; have hnc25 := NB485_499.out; have hnb26 := NB499_486.out; have hnc26 := NB486_499.out; obtain ⟨hcz27_0, hcz27_1, hcz27_2, hcz27_3, hcz27_4, hfz27_0, hfz27_1, hfz27_2, hfz27_3, hfz27_4⟩ := bc5 BK499; obtain ⟨Ao28, co28, eo28⟩ := Kd.R_slice HO492.out; subst eo28) | (go_at_call 35; (with_reducible refine (impl_ValueOfResource.calls kj3 t489 _ _ t490 t493 t494 t495 t500 _ ?side1 ?side2 A19.out).mono ?_); (case side1 => exact (Kd.R_reads' (Re1 HO492 BK499)).2.2); (case side2 => exact (Kd.R_reads' HO492.out).2.1); rintro e w29 ⟨rfl, hb⟩; replace HO492 := ak (Kd.R_below (Re1 HO492 BK499) hb); replace HO498 := ak (Kd.R_below (Re1 HO498 BK499) hb); replace BK485 := kf BK485 hb; replace BK486 := kf BK486 hb; replace BK499 := kp (cs' := #[.int .i64 t489, .slice Ao28 t490.length co28, .int .i64 t493, .int .i64 t494, .int .i64 t495]) BK499 hb; replace HB := bs HB hb; (try clear hb); (try clear hb2); (try clear hk); (try clear hi))); try go_wp2_with (first | (go_at_call 86; (with_reducible refine (impl_FollowAt.calls kj3 _ _ l0_0 a1_1 a1_2 a1_3 (wrap64 (a0_1 + a2)) t489 t490 t493 t494 t495 t496 _ ?side1 ?side2 A18.out).mono ?_); (case side1 => exact CR (Kd.C_below HR0_0.out HB.out)); (case side2 => exact HC0_0.out); rintro e w23 ⟨v491, v497, rfl, ho0, ho1, hb⟩; have HO492 := Rn0 ho0 HB; have HO498 := Rn0 ho1 HB; replace BK485 := kf BK485 hb; replace BK486 := kf BK486 hb; replace HB := bs HB hb; (try clear hb); (try clear hb2); (try clear hk); (try clear hi); (try clear ho0); (try clear ho1)) | ((with_reducible refine gate_dst (N := 7) rfl ?_); refine bx_ (N := 7) #[.int .i64 0, .slice none 0 0, .int .i64 0, .int .i64 0, .int .i64 0] 38 ?_; intro gb499 hg w24 hbox hb; replace HO492 := Rb HO492 hb; replace HO498 := Rb HO498 hb; have BK499 := ak hbox; have GW499 := gy hg HB; have GE499 := gy hg HB; replace HB := bs HB hb; have NB485_499 := gm hg BK485; have NB499_485 := gn hg BK485; replace BK485 := kf BK485 hb; have NB486_499 := gm hg BK486; have NB499_486 := gn hg BK486; replace BK486 := kf BK486 hb; clear hb hbox hg; have hnb25 := NB499_485.out; have hnc25 := NB485_499.out; have hnb26 := NB499_486.out; have hnc26 := NB486_499.out; obtain ⟨hcz27_0, hcz27_1, hcz27_2, hcz27_3, hcz27_4, hfz27_0, hfz27_1, hfz27_2, hfz27_3, hfz27_4⟩ := bc5 BK499; obtain ⟨Ao28, co28, eo28⟩ := Kd.R_slice HO492.out; subst eo28) | (go_at_call 35; (with_reducible refine (impl_ValueOfResource.calls kj3 t489 _ _ t490 t493 t494 t495 t500 _ ?side1 ?side2 A19.out).mono ?_); (case side1 => exact (Kd.R_reads' (Re1 HO492 BK499)).2.2); (case side2 => exact (Kd.R_reads' HO492.out).2.1); rintro e w29 ⟨rfl, hb⟩; replace HO492 := ak (Kd.R_below (Re1 HO492 BK499) hb); replace HO498 := ak (Kd.R_below (Re1 HO498 BK499) hb); replace BK485 := kf BK485 hb; replace BK486 := kf BK486 hb; replace BK499 := kp (cs' := #[.int .i64 t489, .slice Ao28 t490.length co28, .int .i64 t493, .int .i64 t494, .int .i64 t495]) BK499 hb; replace HB := bs HB hb; (try clear hb); (try clear hb2); (try clear hk); (try clear hi))))
     go_ret
     exact ⟨RT, PB⟩
    ·rw [if_neg c17] at H
     have c17b0 : (a1_0 == 1) = false := beq_eq_false_iff_ne.mpr c17
     have c17b1 : (a1_0 != 1) = true := bne_iff_ne.mpr c17
     by_cases c30 : a1_0 = 2
     ·rw [if_pos c30] at H
      have c30b0 : (a1_0 == 2) = true := beq_iff_eq.mpr c30
      have c30b1 : (a1_0 != 2) = false := bne_eq_false_iff_eq.mpr c30
      clear c30
      obtain ⟨ji31, hji31⟩ : ∃ j_ : Int, (mn 999 (wrap64 (a0_1 + a2))) = j_ := ⟨_, rfl⟩
      replace H : (some ji31) = some r := by first | (rw [hji31] at H; exact H) | (simp only [hji31] at H ⊢; exact H)
      have hji31_ : (if (wrap64 (a0_1 + a2)) < 999 then (wrap64 (a0_1 + a2)) else 999) = ji31 := hji31
      obtain rfl := Option.some.inj H
      have hnb32 := NB486_485.out
      have hnc32 := NB485_486.out
      obtain ⟨_, _, _, _, _, _, _, _⟩ := bc4 BK486
      obtain ⟨_, _, _, _, _, _, _, _⟩ := bc4 BK485
      go_wp2
      repeat (go_quiet (fail); try go_wp2)
      go_ret
      exact ⟨by first | rfl | (simp [errW_none, errW_some] <;> rfl) | (simp only [← hji31]; first | rfl | (simp [errW_none, errW_some] <;> rfl)) | (simp [*, errW_none, errW_some] <;> rfl), PB⟩
     ·rw [if_neg c30] at H
      have c30b0 : (a1_0 == 2) = false := beq_eq_false_iff_ne.mpr c30
      have c30b1 : (a1_0 != 2) = true := bne_iff_ne.mpr c30
      by_cases c35 : a1_0 = 3
      ·rw [if_pos c35] at H
       have c35b0 : (a1_0 == 3) = true := beq_iff_eq.mpr c35
       have c35b1 : (a1_0 != 3) = false := bne_eq_false_iff_eq.mpr c35
       clear c35
       obtain ⟨y501, hy501⟩ : ∃ y_ : List Int, y_ = (([a0_2, a2] : List Int)) := ⟨_, rfl⟩
       replace H : ((impl_Hash.f kj3 y501).bind fun t504 => ((impl_Mod.f t504 1000).bind fun t505 => (some t505))) = some r := by first | (rw [hy501]; with_reducible exact H) | (have H2_ := (Option.bind_some _ _).symm.trans H; rw [hy501]; with_reducible exact H2_) | (have H2_ := (Option.bind_some _ _).symm.trans H; with_reducible exact H2_) | with_reducible exact H | (rw [hy501]; exact H) | exact H
       have Ny501 := Aside0.mk hy501
       clear hy501
       replace H := Option.bind_eq_some_iff.mp H
       obtain ⟨t504, A360, H⟩ := H
       replace H : ((impl_Mod.f t504 1000).bind fun t505 => (some t505)) = some r := H
       have A36 := Aside0.mk A360
       clear A360
       replace H := Option.bind_eq_some_iff.mp H
       obtain ⟨t505, A370, H⟩ := H
       replace H : (some t505) = some r := H
       have A37 := Aside0.mk A370
       clear A370
       obtain rfl := Option.some.inj H
       have hnb38 := NB486_485.out
       have hnc38 := NB485_486.out
       obtain ⟨_, _, _, _, _, _, _, _⟩ := bc4 BK486
       obtain ⟨hcz40_0, hcz40_1, hcz40_2, hcz40_3, hfz40_0, hfz40_1, hfz40_2, hfz40_3⟩ := bc4 BK485
       go_wp2_with (first | ((with_reducible refine gate_dst (N := 47) rfl ?_); refine Kd.R_lit (Kd.int .i64) _ 3 ?hg (N := 47) ?hd (xs := ([a0_2, a2] : List Int)) (inner := [.int .i64 a0_2, .int .i64 a2]) (ok := fun _ => True) (okp := fun _ => True) ?hr ?hp (fun _ hk => hk) trivial (Below.refl _ _) (Nat.le_refl _) (by simp) ?_; (case hd => rfl); (case hg => rfl); (case hr => first | (go_simp; done) | (go_simp; rfl)); (case hp => exact (Reps.one (show Kd.M (Kd.int .i64) _ _ _ a0_2 [.int .i64 a0_2] from rfl) (Reps.one (show Kd.M (Kd.int .i64) _ _ _ a2 [.int .i64 a2] from rfl) (Reps.none _ _)))); intro v502 w41 ho42 hb hg_ hnew_; clear hg_ hnew_; (first | rw [← Ny501.out] at ho42 | (simp only [Int.reduceToNat] at ho42; rw [← Ny501.out] at ho42)); have HO503 := Rn0 ho42 HB; replace BK485 := kf BK485 hb; replace BK486 := kf BK486 hb; replace HB := bs HB hb; clear hb ho42; obtain ⟨Ao43, co43, eo43⟩ := Kd.R_slice HO503.out; subst eo43) | (go_at_call 88; (with_reducible refine (impl_Hash.calls kj3 _ _ y501 t504 _ ?side1 ?side2 A36.out).mono ?_); (case side1 => exact CR ((Kd.R_reads' HO503.out).2.2)); (case side2 => exact (Kd.R_reads' HO503.out).2.1); rintro e w' ⟨rfl, ⟨nd, rfl⟩⟩; (try first | exact ⟨rfl, _, World.drewN_drewN _ _ _⟩ | exact ⟨rfl, _, Eq.trans (World.drewN_drewN _ _ _) (congrArg (World.drewN _) (Nat.add_assoc _ _ _))⟩)) | (go_at_call 87; (with_reducible refine (impl_Mod.calls t504 1000 t505 _ A37.out).mono ?_); rintro e w' ⟨rfl, ⟨nd, rfl⟩⟩; (try first | exact ⟨rfl, _, World.drewN_drewN _ _ _⟩ | exact ⟨rfl, _, Eq.trans (World.drewN_drewN _ _ _) (congrArg (World.drewN _) (Nat.add_assoc _ _ _))⟩)))
       repeat (go_quiet (first | ((with_reducible refine gate_dst (N := 47) rfl ?_); refine Kd.R_lit (Kd.int .i64) _ 3 ?hg (N := 47) ?hd (xs := ([a0_2, a2] : List Int)) (inner := [.int .i64 a0_2, .int .i64 a2]) (ok := fun _ => True) (okp := fun _ => True) ?hr ?hp (fun _ hk => hk) trivial (Below.refl _ _) (Nat.le_refl _) (by simp) ?_; (case hd => rfl); (case hg => rfl); (case hr => first | (go_simp; done) | (go_simp; rfl)); (case hp => exact (Reps.one (show Kd.M (Kd.int .i64) _ _ _ a0_2 [.int .i64 a0_2] from rfl) (Reps.one (show Kd.M (Kd.int .i64) _ _ _ a2 [.int .i64 a2] from rfl) (Reps.none _ _)))); intro v502 w41 ho42 hb hg_ hnew_; clear hg_ hnew_; (first | rw [← Ny501.out] at ho42 | (simp only [Int.reduceToNat] at ho42; rw [← Ny501.out] at ho42)); have HO503 := Rn0 ho42 HB; replace BK485 := kf BK485 hb; replace BK486 := kf BK486 hb; replace HB := bs HB hb; clear hb ho42; obtain ⟨Ao43, co43, eo43⟩ := Kd.R_slice HO503.out; subst eo43) | (go_at_call 88; (with_reducible refine (impl_Hash.calls kj3 _ _ y501 t504 _ ?side1 ?side2 A36.out).mono ?_); (case side1 => exact CR ((Kd.R_reads' HO503.out).2.2)); (case side2 => exact (Kd.R_reads' HO503.out).2.1); rintro e w' ⟨rfl, ⟨nd, rfl⟩⟩; (try first | exact ⟨rfl, _, World.drewN_drewN _ _ _⟩ | exact ⟨rfl, _, Eq.trans (World.drewN_drewN _ _ _) (congrArg (World.drewN _) (Nat.add_assoc _ _ _))⟩)) | (go_at_call 87; (with_reducible refine (impl_Mod.calls t504 1000 t505 _ A37.out).mono ?_); rintro e w' ⟨rfl, ⟨nd, rfl⟩⟩; (try first | exact ⟨rfl, _, World.drewN_drewN _ _ _⟩ | exact ⟨rfl, _, Eq.trans (World.drewN_drewN _ _ _) (congrArg (World.drewN _) (Nat.add_assoc _ _ _))⟩))); try go_wp2_with (first | ((with_reducible refine gate_dst (N := 47) rfl ?_); refine Kd.R_lit (Kd.int .i64) _ 3 ?hg (N := 47) ?hd (xs := ([a0_2, a2] : List Int)) (inner := [.int .i64 a0_2, .int .i64 a2]) (ok := fun _ => True) (okp := fun _ => True) ?hr ?hp (fun _ hk => hk) trivial (Below.refl _ _) (Nat.le_refl _) (by simp) ?_; (case hd => rfl); (case hg => rfl); (case hr => first | (go_simp; done) | (go_simp; rfl)); (case hp => exact (Reps.one (show Kd.M (Kd.int .i64) _ _ _ a0_2 [.int .i64 a0_2] from rfl) (Reps.one (show Kd.M (Kd.int .i64) _ _ _ a2 [.int .i64 a2] from rfl) (Reps.none _ _)))); intro v502 w41 ho42 hb hg_ hnew_; clear hg_ hnew_; (first | rw [← Ny501.out] at ho42 | (simp only [Int.reduceToNat] at ho42; rw [← Ny501.out] at ho42)); have HO503 := Rn0 ho42 HB; replace BK485 := kf BK485 hb; replace BK486 := kf BK486 hb; replace HB := bs HB hb; clear hb ho42; obtain ⟨Ao43, co43, eo43⟩ := Kd.R_slice HO503.out; subst eo43) | (go_at_call 88; (with_reducible refine (impl_Hash.calls kj3 _ _ y501 t504 _ ?side1 ?side2 A36.out).mono ?_); (case side1 => exact CR ((Kd.R_reads' HO503.out).2.2)); (case side2 => exact (Kd.R_reads' HO503.out).2.1); rintro e w' ⟨rfl, ⟨nd, rfl⟩⟩; (try first | exact ⟨rfl, _, World.drewN_drewN _ _ _⟩ | exact ⟨rfl, _, Eq.trans (World.drewN_drewN _ _ _) (congrArg (World.drewN _) (Nat.add_assoc _ _ _))⟩)) | (go_at_call 87; (with_reducible refine (impl_Mod.calls t504 1000 t505 _ A37.out).mono ?_); rintro e w' ⟨rfl, ⟨nd, rfl⟩⟩; (try first | exact ⟨rfl, _, World.drewN_drewN _ _ _⟩ | exact ⟨rfl, _, Eq.trans (World.drewN_drewN _ _ _) (congrArg (World.drewN _) (Nat.add_assoc _ _ _))⟩))))
       go_ret
       exact ⟨RT, PB⟩
      ·rw [if_neg c35] at H
       have c35b0 : (a1_0 == 3) = false := beq_eq_false_iff_ne.mpr c35
       have c35b1 : (a1_0 != 3) = true := bne_iff_ne.mpr c35
       by_cases c44 : a1_0 = 4
       ·rw [if_pos c44] at H
        have c44b0 : (a1_0 == 4) = true := beq_iff_eq.mpr c44
        have c44b1 : (a1_0 != 4) = false := bne_eq_false_iff_eq.mpr c44
        clear c44
        by_cases c45 : (l0_3.length : Int) > 0
        ·rw [if_pos c45] at H
         have c45b0 : decide (0 < (l0_3.length : Int)) = true := decide_eq_true c45
         have c45b1 : decide (0 < l0_3.length) = true := decide_eq_true (by omega)
         clear c45
         by_cases c46 : (l0_3.length : Int) = 0
         ·rw [if_pos c46] at H
          exact absurd H (by simp)
         ·rw [if_neg c46] at H
          have c46b0 : ((l0_3.length : Int) == 0) = false := beq_eq_false_iff_ne.mpr c46
          have c46b1 : ((l0_3.length : Int) != 0) = true := bne_iff_ne.mpr c46
          have c46b2 : ¬ (l0_3 = []) := fun h_ => c46 (by rw [h_]; rfl)
          obtain ⟨ji47, hji47⟩ : ∃ j_ : Int, (Int.tmod a2 (l0_3.length : Int)) = j_ := ⟨_, rfl⟩
          replace H : (if 0 ≤ (ji47) then (if (ji47) < (l0_3.length : Int) then (some (rd l0_3 (ji47))) else (none)) else (none)) = some r := by first | (rw [hji47] at H; exact H) | (simp only [hji47] at H ⊢; exact H)
          by_cases c48 : 0 ≤ (ji47)
          ·rw [if_pos c48] at H
           have c48b0 : decide (0 ≤ (ji47)) = true := decide_eq_true c48
           clear c48
           by_cases c49 : (ji47) < (l0_3.length : Int)
           ·rw [if_pos c49] at H
            have c49b0 : decide ((ji47) < (l0_3.length : Int)) = true := decide_eq_true c49
            clear c49
            obtain rfl := Option.some.inj H
            have hnb50 := NB486_485.out
            have hnc50 := NB485_486.out
            obtain ⟨_, _, _, _, _, _, _, _⟩ := bc4 BK486
            obtain ⟨_, _, _, _, _, _, _, _⟩ := bc4 BK485
            have p506 : 0 ≤ ((ji47) : Int) := of_decide_eq_true (by first | (with_reducible assumption) | assumption)
            have q506 : (ji47) < (l0_3.length : Int) := of_decide_eq_true (by first | (with_reducible assumption) | assumption)
            obtain ⟨ad506, e506, hx506_0⟩ := Kd.at_int HR0_3.out (ji47) p506 q506
            cases e506
            replace hx506_0 := hx_ HB hx506_0
            replace p506 := eq_true p506
            replace q506 := eq_true q506
            go_wp2
            repeat (go_quiet (fail); try go_wp2)
            go_ret
            exact ⟨by first | rfl | (simp [errW_none, errW_some] <;> rfl) | (simp only [← hji47]; first | rfl | (simp [errW_none, errW_some] <;> rfl)) | (simp [*, errW_none, errW_some] <;> rfl), PB⟩
           ·rw [if_neg c49] at H
            exact absurd H (by simp)
          ·rw [if_neg c48] at H
           exact absurd H (by simp)
        ·rw [if_neg c45] at H
         have c45b0 : decide (0 < (l0_3.length : Int)) = false := decide_eq_false c45
         have c45b1 : decide (0 < l0_3.length) = false := decide_eq_false (by omega)
         clear c45
         obtain rfl := Option.some.inj H
         have hnb53 := NB486_485.out
         have hnc53 := NB485_486.out
         obtain ⟨_, _, _, _, _, _, _, _⟩ := bc4 BK486
         obtain ⟨hcz55_0, hcz55_1, hcz55_2, hcz55_3, hfz55_0, hfz55_1, hfz55_2, hfz55_3⟩ := bc4 BK485
         go_wp2
         repeat (go_quiet (fail); try go_wp2)
         go_ret
         exact ⟨RT, PB⟩
       ·rw [if_neg c44] at H
        have c44b0 : (a1_0 == 4) = false := beq_eq_false_iff_ne.mpr c44
        have c44b1 : (a1_0 != 4) = true := bne_iff_ne.mpr c44
        obtain rfl := Option.some.inj H
        have hnb56 := NB486_485.out
        have hnc56 := NB485_486.out
        obtain ⟨_, _, _, _, _, _, _, _⟩ := bc4 BK486
        go_wp2
        repeat (go_quiet (fail); try go_wp2)
        go_ret
        exact ⟨RT, PB⟩

/-! ### spec_l1In: function 91 -/
def spec_l1In.f (a0 : Int) (a1 : Int) (a2 : Int) : Option (Bool) := if a0 ≥ a1 then (some (decide (a0 ≤ a2))) else (some false)
set_option maxHeartbeats 8000000 in
set_option maxRecDepth 100000 in
theorem spec_l1In.calls (a0 : Int) (a1 : Int) (a2 : Int) (r : Bool) (w : World) (h : spec_l1In.f a0 a1 a2 = some r) :
  Calls Try.prog 91 #[.int .i64 a0, .int .i64 a1, .int .i64 a2] w fun e w' => e = .returned (.bool r) ∧ Drawn0 w w' := by
 have H : (if a0 ≥ a1 then (some (decide (a0 ≤ a2))) else (some false)) = some r := h
 clear h
 by_cases c4 : a0 ≥ a1
 ·rw [if_pos c4] at H
  have c4b0 : decide (a1 ≤ a0) = true := decide_eq_true c4
  clear c4
  obtain rfl := Option.some.inj H
  go_enter Try.func91, Try.ntmps91
  go_wp2
  go_ret
  exact ⟨by first | rfl | (simp; done) | (simp [*]; done), by repeat (first | exact Drawn0.refl _ | apply Drawn0.step)⟩
 ·rw [if_neg c4] at H
  have c4b0 : decide (a1 ≤ a0) = false := decide_eq_false c4
  clear c4
  obtain rfl := Option.some.inj H
  go_enter Try.func91, Try.ntmps91
  go_wp2
  go_ret
  exact ⟨by first | rfl | (simp; done) | (simp [*]; done), by repeat (first | exact Drawn0.refl _ | apply Drawn0.step)⟩

end Go.Proofs.Ytgcamebeonodeaa.MFnVisits
