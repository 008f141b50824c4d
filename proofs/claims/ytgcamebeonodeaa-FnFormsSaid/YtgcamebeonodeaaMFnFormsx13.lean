-- Written by a program of this session out of the translation's own print. Not trusted: Lean checks it.
import Derived.Test.YtgcamebeonodeaaShr2
import Derived.Test.YtgcamebeonodeaaMFnFormsx0
import Derived.Test.YtgcamebeonodeaaMFnFormsx9
import Derived.Test.YtgcamebeonodeaaMFnFormsx12
namespace Go.Proofs.Ytgcamebeonodeaa.MFnForms
open Go.RowKit Go.Proofs.YtgcamebeonodeaaW.PrintWords Go.Proofs.YtgcamebeonodeaaW.PrintLast Go.Proofs.YtgcamebeonodeaaW.PrintMore
attribute [local go_sem] max2_int min2_int max_two min_two max_three min_three max_four min_four   -- for this text's walks alone
set_option linter.unusedVariables false
set_option linter.unusedSimpArgs false

abbrev b13_0 : Array Bool := #[true, true, true, true, true, true, true, true, true, true, true]
abbrev b13_1 : Array Bool := #[true, true, true, true, true, true, true, true, true, true, false]
abbrev b13_2 : Array Bool := #[true, true, true, true, true, true, true, true, true, false, false]
abbrev b13_3 : Array Bool := #[true, true, true, true, true, true, true, true, false, false, false]
abbrev b13_4 : Array Bool := #[true, true, false, true, true, true, true, true, false, false, false]
abbrev b13_5 : Array Bool := #[true, true, false, true, true, true, true, false, false, false, false]
abbrev b13_6 : Array Bool := #[true, true, false, true, true, true, false, false, false, false, false]
abbrev b13_7 : Array Bool := #[true, false, false, true, true, true, false, false, false, false, false]
abbrev b13_8 : Array Bool := #[true, false, false, true, true, false, false, false, false, false, false]
abbrev b13_9 : Array Bool := #[true, false, false, true, false, false, false, false, false, false, false]
abbrev b13_10 : Array Bool := #[true, false, false, false, false, false, false, false, false, false, false]
abbrev b13_11 : Array Bool := #[false, false, false, false, false, false, false, false, false, false, false]
theorem bq {w : World} {g : Nat} {t : TypeId} {cs : Array Value} {v : Value} (b : Aside0 (w.heap[g]? = some (.cells cs t (0, 0)))) (i : Nat) (h : cs[i]? = some v := by rfl) : w.cell? ⟨g, i, none⟩ = some v := (blk_cell b.out i).trans h
/-! ### spec_FitsForm: function 113 -/
def spec_FitsForm.f (k : Nat) (a0_0 : Int) (a0_1 : Int) (a0_2 : Int) (a0_3 : Bool) (a1_0 : Int) (a1_1 : Int) (a1_2 : Int) (a1_3 : Int) (a1_4 : Int) (l1_5 : List Int) (a1_6 : Int) (a1_7 : Int) (a1_8 : Int) : Option (Bool) := (spec_l1In.f a0_0 0 999).bind fun t465 => (if t465 = true then ((spec_l1In.f a0_1 0 999).bind fun t466 => (if t466 = true then ((spec_l19Kind.f k a1_0 a1_1 a1_2 a1_3 a1_4 l1_5 a1_6 a1_7 a1_8).bind fun t467 => (if t467 = true then ((spec_l1In.f a1_2 0 99).bind fun t468 => (if t468 = true then ((spec_ValueOfResource.f k a1_4 l1_5 a1_6 a1_7 a1_8).bind fun t469 => (some (t469 == (Int.tmod (wrap64 (a0_0 + (wrap64 (a0_1 * a1_2)))) 1000)))) else (some false))) else (some false))) else (some false))) else (some false))
def spec_FitsForm.T3 : Bool × List (List Nat × List Nat) := (true, [([], []), ([0], [0]), ([1], [1]), ([], []), ([3], [3]), ([], []), ([5], [5]), ([], []), ([7], [7]), ([8], [8]), ([6, 9], [6, 9]), ([4, 10], [4, 10]), ([11], [11]), ([2, 12], [2, 12]), ([13, 2, 0, 1, 2, 3, 4, 5, 6, 7, 8, 9, 10, 11, 12, 13], [13])])
def spec_FitsForm.B3 : List Nat := [0, 1, 3, 0, 8, 0, 32, 0, 128, 384, 992, 2040, 4088, 8191, 16383]
theorem spec_FitsForm.tab3 : rtab .any (opsOf Try.f113 3) = spec_FitsForm.T3 := by kernel_rfl
theorem spec_FitsForm.bits3 : waitsOk spec_FitsForm.T3.2 spec_FitsForm.B3 = true := by kernel_rfl
set_option maxHeartbeats 8000000 in
set_option maxRecDepth 100000 in
theorem spec_FitsForm.calls (k : Nat) (a0_0 : Int) (a0_1 : Int) (a0_2 : Int) (a0_3 : Bool) (a1_0 : Int) (a1_1 : Int) (a1_2 : Int) (a1_3 : Int) (a1_4 : Int) (A1_5 : Option Addr) (c1_5 : Nat) (l1_5 : List Int) (a1_6 : Int) (a1_7 : Int) (a1_8 : Int) (r : Bool) (w : World) (hr1_5 : Kd.C (Kd.int .i64) w A1_5 l1_5.length l1_5) (hc1_5 : l1_5.length ≤ c1_5) (h : spec_FitsForm.f k a0_0 a0_1 a0_2 a0_3 a1_0 a1_1 a1_2 a1_3 a1_4 l1_5 a1_6 a1_7 a1_8 = some r) :
  Calls Try.prog 113 #[.agg #[.int .i64 a0_0, .int .i64 a0_1, .int .i64 a0_2, .bool a0_3], .agg #[.int .i64 a1_0, .int .i64 a1_1, .int .i64 a1_2, .int .i64 a1_3, .int .i64 a1_4, .slice A1_5 l1_5.length c1_5, .int .i64 a1_6, .int .i64 a1_7, .int .i64 a1_8]] w fun e w' => e = .returned (.bool r) ∧ Below w.heap.size w w' := by
 have hu85 := Try.underlying85; have hu40 := Try.underlying40; have hu38 := Try.underlying38; have HR1_5 := Aside0.mk hr1_5; have HC1_5 := Aside0.mk hc1_5; clear hr1_5 hc1_5; have HB := ak (Below.refl w.heap.size w)
 have H : ((spec_l1In.f a0_0 0 999).bind fun t465 => (if t465 = true then ((spec_l1In.f a0_1 0 999).bind fun t466 => (if t466 = true then ((spec_l19Kind.f k a1_0 a1_1 a1_2 a1_3 a1_4 l1_5 a1_6 a1_7 a1_8).bind fun t467 => (if t467 = true then ((spec_l1In.f a1_2 0 99).bind fun t468 => (if t468 = true then ((spec_ValueOfResource.f k a1_4 l1_5 a1_6 a1_7 a1_8).bind fun t469 => (some (t469 == (Int.tmod (wrap64 (a0_0 + (wrap64 (a0_1 * a1_2)))) 1000)))) else (some false))) else (some false))) else (some false))) else (some false))) = some r := h
 clear h; replace H := Option.bind_eq_some_iff.mp H
 obtain ⟨t465, A30, H⟩ := H
 replace H : (if t465 = true then ((spec_l1In.f a0_1 0 999).bind fun t466 => (if t466 = true then ((spec_l19Kind.f k a1_0 a1_1 a1_2 a1_3 a1_4 l1_5 a1_6 a1_7 a1_8).bind fun t467 => (if t467 = true then ((spec_l1In.f a1_2 0 99).bind fun t468 => (if t468 = true then ((spec_ValueOfResource.f k a1_4 l1_5 a1_6 a1_7 a1_8).bind fun t469 => (some (t469 == (Int.tmod (wrap64 (a0_0 + (wrap64 (a0_1 * a1_2)))) 1000)))) else (some false))) else (some false))) else (some false))) else (some false)) = some r := H
 have A3 := Aside0.mk A30; clear A30
 by_cases c4 : t465 = true
 ·subst c4
  have H1 : ((spec_l1In.f a0_1 0 999).bind fun t466 => (if t466 = true then ((spec_l19Kind.f k a1_0 a1_1 a1_2 a1_3 a1_4 l1_5 a1_6 a1_7 a1_8).bind fun t467 => (if t467 = true then ((spec_l1In.f a1_2 0 99).bind fun t468 => (if t468 = true then ((spec_ValueOfResource.f k a1_4 l1_5 a1_6 a1_7 a1_8).bind fun t469 => (some (t469 == (Int.tmod (wrap64 (a0_0 + (wrap64 (a0_1 * a1_2)))) 1000)))) else (some false))) else (some false))) else (some false))) = some r := by rw [if_pos rfl] at H; exact H
  clear H; have H := H1; clear H1; replace H := Option.bind_eq_some_iff.mp H
  obtain ⟨t466, A50, H⟩ := H
  replace H : (if t466 = true then ((spec_l19Kind.f k a1_0 a1_1 a1_2 a1_3 a1_4 l1_5 a1_6 a1_7 a1_8).bind fun t467 => (if t467 = true then ((spec_l1In.f a1_2 0 99).bind fun t468 => (if t468 = true then ((spec_ValueOfResource.f k a1_4 l1_5 a1_6 a1_7 a1_8).bind fun t469 => (some (t469 == (Int.tmod (wrap64 (a0_0 + (wrap64 (a0_1 * a1_2)))) 1000)))) else (some false))) else (some false))) else (some false)) = some r := H
  have A5 := Aside0.mk A50; clear A50
  by_cases c6 : t466 = true
  ·subst c6
   have H1 : ((spec_l19Kind.f k a1_0 a1_1 a1_2 a1_3 a1_4 l1_5 a1_6 a1_7 a1_8).bind fun t467 => (if t467 = true then ((spec_l1In.f a1_2 0 99).bind fun t468 => (if t468 = true then ((spec_ValueOfResource.f k a1_4 l1_5 a1_6 a1_7 a1_8).bind fun t469 => (some (t469 == (Int.tmod (wrap64 (a0_0 + (wrap64 (a0_1 * a1_2)))) 1000)))) else (some false))) else (some false))) = some r := by rw [if_pos rfl] at H; exact H
   clear H; have H := H1; clear H1; replace H := Option.bind_eq_some_iff.mp H
   obtain ⟨t467, A70, H⟩ := H
   replace H : (if t467 = true then ((spec_l1In.f a1_2 0 99).bind fun t468 => (if t468 = true then ((spec_ValueOfResource.f k a1_4 l1_5 a1_6 a1_7 a1_8).bind fun t469 => (some (t469 == (Int.tmod (wrap64 (a0_0 + (wrap64 (a0_1 * a1_2)))) 1000)))) else (some false))) else (some false)) = some r := H
   have A7 := Aside0.mk A70; clear A70
   by_cases c8 : t467 = true
   ·subst c8
    have H1 : ((spec_l1In.f a1_2 0 99).bind fun t468 => (if t468 = true then ((spec_ValueOfResource.f k a1_4 l1_5 a1_6 a1_7 a1_8).bind fun t469 => (some (t469 == (Int.tmod (wrap64 (a0_0 + (wrap64 (a0_1 * a1_2)))) 1000)))) else (some false))) = some r := by rw [if_pos rfl] at H; exact H
    clear H; have H := H1; clear H1; replace H := Option.bind_eq_some_iff.mp H
    obtain ⟨t468, A90, H⟩ := H
    replace H : (if t468 = true then ((spec_ValueOfResource.f k a1_4 l1_5 a1_6 a1_7 a1_8).bind fun t469 => (some (t469 == (Int.tmod (wrap64 (a0_0 + (wrap64 (a0_1 * a1_2)))) 1000)))) else (some false)) = some r := H
    have A9 := Aside0.mk A90; clear A90
    by_cases c10 : t468 = true
    ·subst c10
     have H1 : ((spec_ValueOfResource.f k a1_4 l1_5 a1_6 a1_7 a1_8).bind fun t469 => (some (t469 == (Int.tmod (wrap64 (a0_0 + (wrap64 (a0_1 * a1_2)))) 1000)))) = some r := by rw [if_pos rfl] at H; exact H
     clear H; have H := H1; clear H1; replace H := Option.bind_eq_some_iff.mp H
     obtain ⟨t469, A110, H⟩ := H
     replace H : (some (t469 == (Int.tmod (wrap64 (a0_0 + (wrap64 (a0_1 * a1_2)))) 1000))) = some r := H
     have A11 := Aside0.mk A110; clear A110
     obtain rfl := Option.some.inj H
     go_enter Try.func113, Try.ntmps113
     try go_wp2_with (first | ((with_reducible refine gate_dst (N := 2) rfl ?_); refine bx_ (N := 2) #[.int .i64 a0_0, .int .i64 a0_1, .int .i64 a0_2, .bool a0_3] 85 ?_; intro gb463 hg w12 hbox hb; have BK463 := ak hbox; have GW463 := gy hg HB; have GE463 := gy hg HB; replace HB := bs HB hb; clear hb hbox hg) | ((with_reducible refine gate_dst (N := 3) rfl ?_); refine bx_ (N := 3) #[.int .i64 a1_0, .int .i64 a1_1, .int .i64 a1_2, .int .i64 a1_3, .int .i64 a1_4, .slice A1_5 l1_5.length c1_5, .int .i64 a1_6, .int .i64 a1_7, .int .i64 a1_8] 40 ?_; intro gb464 hg w13 hbox hb; have BK464 := ak hbox; have GW464 := gy hg HB; have GE464 := gy hg HB; replace HB := bs HB hb; have NB463_464 := gm hg BK463; have NB464_463 := gn hg BK463; replace BK463 := kf BK463 hb; clear hb hbox hg; have hnb14 := NB463_464.out; have hnc14 := NB464_463.out; obtain ⟨_, _, _, _, _, _, _, _⟩ := bc4 BK463) | ((with_reducible refine gate_callee (f := 91) rfl ?_); refine goesL_ (some 7) rfl rfl Try.func91 KR rfl #[.int .i64 a0_0, .int .i64 0, .int .i64 999] rfl AR ?_; (with_reducible refine (spec_l1In.calls a0_0 0 999 true _ A3.out).mono ?_); rintro e w' ⟨rfl, ⟨nd, rfl⟩⟩; refine ⟨_, rfl, ?_⟩) | (go_at_call 91; (with_reducible refine (spec_l1In.calls a0_1 0 999 true _ A5.out).mono ?_); rintro e w' ⟨rfl, ⟨nd, rfl⟩⟩; obtain ⟨_, _, _, _, _, _, _, _, _, _, _, _, _, _, _, _, _, _⟩ := bc9 BK464) | (go_at_call 110; (with_reducible refine (spec_l19Kind.calls k a1_0 a1_1 a1_2 a1_3 a1_4 _ _ l1_5 a1_6 a1_7 a1_8 true _ ?side1 ?side2 A7.out).mono ?_); (case side1 => repeat (first | exact (Kd.C_below HR1_5.out PB) | (with_reducible refine Kd.C_alloc ?_ _) | (with_reducible refine Kd.C_drewN ?_ _) | (with_reducible refine Kd.C_drew ?_))); (case side2 => exact HC1_5.out); rintro e w17 ⟨rfl, hb⟩; replace BK463 := kf BK463 hb; replace BK464 := kf BK464 hb; replace HB := bs HB hb; (try clear hb); (try clear hb2); (try clear hk); (try clear hi); obtain ⟨hcz18_0, hcz18_1, hcz18_2, hcz18_3, hcz18_4, hcz18_5, hcz18_6, hcz18_7, hcz18_8, hfz18_0, hfz18_1, hfz18_2, hfz18_3, hfz18_4, hfz18_5, hfz18_6, hfz18_7, hfz18_8⟩ := bc9 BK464) | (go_at_call 91; (with_reducible refine (spec_l1In.calls a1_2 0 99 true _ A9.out).mono ?_); rintro e w' ⟨rfl, ⟨nd, rfl⟩⟩))
     (try (rw [drewN_self w17]; generalize hq_ : World.drewN w17 _ = w17; replace BK463 : Aside0 (w17.heap[gb463]? = some (.cells #[.int .i64 a0_0, .int .i64 a0_1, .int .i64 a0_2, .bool a0_3] 85 (0, 0))) := ⟨by rw [← hq_]; exact (PK BK463)⟩; replace BK464 : Aside0 (w17.heap[gb464]? = some (.cells #[.int .i64 a1_0, .int .i64 a1_1, .int .i64 a1_2, .int .i64 a1_3, .int .i64 a1_4, .slice A1_5 l1_5.length c1_5, .int .i64 a1_6, .int .i64 a1_7, .int .i64 a1_8] 40 (0, 0))) := ⟨by rw [← hq_]; exact (PK BK464)⟩; replace HB : Aside0 (Below w.heap.size w w17) := ⟨by rw [← hq_]; exact PB⟩; clear hq_))
     replace BK463 := ak (blk_drew BK463.out); replace BK464 := ak (blk_drew BK464.out); replace HB := ak (below_drew1 HB.out)
     refine start_ (n := 15) (S := fun w' => w'.cell? ⟨gb464, 0, none⟩ = some (.int .i64 a1_0) ∧ w'.cell? ⟨gb464, 1, none⟩ = some (.int .i64 a1_1) ∧ w'.cell? ⟨gb464, 2, none⟩ = some (.int .i64 a1_2) ∧ w'.cell? ⟨gb464, 3, none⟩ = some (.int .i64 a1_3) ∧ w'.cell? ⟨gb464, 4, none⟩ = some (.int .i64 a1_4) ∧ w'.cell? ⟨gb464, 5, none⟩ = some (.slice A1_5 l1_5.length c1_5) ∧ w'.cell? ⟨gb464, 6, none⟩ = some (.int .i64 a1_6) ∧ w'.cell? ⟨gb464, 7, none⟩ = some (.int .i64 a1_7) ∧ w'.cell? ⟨gb464, 8, none⟩ = some (.int .i64 a1_8) ∧ w'.cell? ⟨gb463, 0, none⟩ = some (.int .i64 a0_0) ∧ w'.cell? ⟨gb463, 1, none⟩ = some (.int .i64 a0_1) ∧ w'.cell? ⟨gb463, 2, none⟩ = some (.int .i64 a0_2) ∧ w'.cell? ⟨gb463, 3, none⟩ = some (.bool a0_3)) (ds := []) #[false, false, false, false, false, false, false, false, false, false, false, false, false, false, false] KR rfl rfl ⟨bq BK464 0, bq BK464 1, bq BK464 2, bq BK464 3, bq BK464 4, bq BK464 5, bq BK464 6, bq BK464 7, bq BK464 8, bq BK463 0, bq BK463 1, bq BK463 2, bq BK463 3⟩ (fun hHeld => ?_); refine with_tabW spec_FitsForm.tab3 spec_FitsForm.bits3 (fun HT_ HW_ => ?_)
     generalize w17.drew = w19 at BK463 BK464 HB hHeld ⊢
     refine pu_ (i := 0) (N := some 27) #[true, false, false, false, false, false, false, false, false, false, false, false, false, false, false] HT_ ?_
     refine pu_ (i := 3) (N := some 30) #[true, false, false, true, false, false, false, false, false, false, false, false, false, false, false] HT_ ?_
     refine pu_ (i := 5) (N := some 32) #[true, false, false, true, false, true, false, false, false, false, false, false, false, false, false] HT_ ?_
     refine pu_ (i := 7) (N := some 34) #[true, false, false, true, false, true, false, true, false, false, false, false, false, false, false] HT_ ?_
     refine pu_ (i := 8) (N := some 35) #[true, false, false, true, false, true, false, true, true, false, false, false, false, false, false] HT_ ?_
     refine tk_ (i := 1) (N := some 28) #[true, true, false, true, false, true, false, true, true, false, false, false, false, false, false] rfl rfl HT_ HW_ hHeld ?_
     refine take_ (i := 4) (N := some 31) (v := ?_) (a' := ?_) #[true, true, false, true, true, true, false, true, true, false, false, false, false, false, false] rfl rfl (take_ofW HT_.out HW_.out KR) (fun _ _ _ h => h) (Or.inl ⟨by rfl, ?_⟩) hHeld ?_ ?_
     rotate_left
     ·rintro w' ⟨s0, s1, s2, s3, s4, s5, s6, s7, s8, s9, s10, s11, s12⟩
      go_simp
      with_reducible rfl
     rotate_left
     ·simp only [Act.put, List.setIfInBounds_toArray, List.set_cons_zero, List.set_cons_succ, i64_w, i32_w]
      rfl
     refine tk_ (i := 6) (N := some 33) #[true, true, false, true, true, true, true, true, true, false, false, false, false, false, false] rfl rfl HT_ HW_ hHeld ?_
     refine take_ (i := 9) (N := some 36) (v := ?_) (a' := ?_) #[true, true, false, true, true, true, true, true, true, true, false, false, false, false, false] rfl rfl (take_ofW HT_.out HW_.out KR) (fun _ _ _ h => h) (Or.inl ⟨by rfl, ?_⟩) hHeld ?_ ?_
     rotate_left
     ·rintro w' ⟨s0, s1, s2, s3, s4, s5, s6, s7, s8, s9, s10, s11, s12⟩
      go_simp
      with_reducible rfl
     rotate_left
     ·simp only [Act.put, List.setIfInBounds_toArray, List.set_cons_zero, List.set_cons_succ, i64_w, i32_w]
      rfl
     refine pu_ (i := 10) (N := some 37) #[true, true, false, true, true, true, true, true, true, true, true, false, false, false, false] HT_ ?_
     refine pu_ (i := 11) (N := some 38) #[true, true, false, true, true, true, true, true, true, true, true, true, false, false, false] HT_ ?_
     refine pu_ (i := 12) (N := some 39) #[true, true, false, true, true, true, true, true, true, true, true, true, true, false, false] HT_ ?_
     refine one_ (i := 2) (N := some 29) #[true, true, true, true, true, true, true, true, true, true, true, true, true, false, false] rfl rfl (one_of HT_.out KR) (by decide) (fun K hK => ?_)
     refine goes_ Try.func111 KR rfl #[.agg #[.int .i64 a1_4, .slice A1_5 l1_5.length c1_5, .int .i64 a1_6, .int .i64 a1_7, .int .i64 a1_8]] (by rfl) rfl rfl AR ?_
     with_reducible refine (spec_ValueOfResource.calls k a1_4 _ _ l1_5 a1_6 a1_7 a1_8 t469 _ ?side1 ?side2 A11.out).mono ?_
     (case side1 => exact CR (Kd.C_below HR1_5.out HB.out))
     (case side2 => exact HC1_5.out)
     rintro e w20 ⟨rfl, hb⟩
     refine ⟨_, rfl, ?_⟩; replace BK463 := kf BK463 hb; replace BK464 := kf BK464 hb; replace HB := bs HB hb
     (try clear hb); (try clear hb2); (try clear hk); (try clear hi)
     refine hK.out _ _ ⟨bq BK464 0, bq BK464 1, bq BK464 2, bq BK464 3, bq BK464 4, bq BK464 5, bq BK464 6, bq BK464 7, bq BK464 8, bq BK463 0, bq BK463 1, bq BK463 2, bq BK463 3⟩ (fun hHeld => ?_)
     clear hK K
     refine norm_ (a' := ?_) ?_ ?_
     rotate_left
     ·show Act.put _ (some 29) _ = _
      simp only [Act.put, List.setIfInBounds_toArray, List.set_cons_zero, List.set_cons_succ, i64_w, i32_w]
      rfl
     refine pu_ (i := 13) (N := some 40) #[true, true, true, true, true, true, true, true, true, true, true, true, true, true, false] HT_ ?_
     refine pu_ (i := 14) (N := some 4) #[true, true, true, true, true, true, true, true, true, true, true, true, true, true, true] HT_ ?_
     refine done_ (done_of HT_.out KR) ?_
     try go_wp2
     go_ret
     exact ⟨RT, PB⟩
    ·replace c10 := Bool.eq_false_iff.mpr c10
     subst c10
     have H1 : (some false) = some r := by rw [if_neg (show ¬ (false = true) by decide)] at H; exact H
     clear H; have H := H1; clear H1
     obtain rfl := Option.some.inj H
     go_enter Try.func113, Try.ntmps113
     go_wp2_with (first | ((with_reducible refine gate_dst (N := 2) rfl ?_); refine bx_ (N := 2) #[.int .i64 a0_0, .int .i64 a0_1, .int .i64 a0_2, .bool a0_3] 85 ?_; intro gb463 hg w21 hbox hb; have BK463 := ak hbox; have GW463 := gy hg HB; have GE463 := gy hg HB; replace HB := bs HB hb; clear hb hbox hg) | ((with_reducible refine gate_dst (N := 3) rfl ?_); refine bx_ (N := 3) #[.int .i64 a1_0, .int .i64 a1_1, .int .i64 a1_2, .int .i64 a1_3, .int .i64 a1_4, .slice A1_5 l1_5.length c1_5, .int .i64 a1_6, .int .i64 a1_7, .int .i64 a1_8] 40 ?_; intro gb464 hg w22 hbox hb; have BK464 := ak hbox; have GW464 := gy hg HB; have GE464 := gy hg HB; replace HB := bs HB hb; have NB463_464 := gm hg BK463; have NB464_463 := gn hg BK463; replace BK463 := kf BK463 hb; clear hb hbox hg; have hnb23 := NB463_464.out; have hnc23 := NB464_463.out; obtain ⟨_, _, _, _, _, _, _, _⟩ := bc4 BK463) | ((with_reducible refine gate_callee (f := 91) rfl ?_); refine goesL_ (some 7) rfl rfl Try.func91 KR rfl #[.int .i64 a0_0, .int .i64 0, .int .i64 999] rfl AR ?_; (with_reducible refine (spec_l1In.calls a0_0 0 999 true _ A3.out).mono ?_); rintro e w' ⟨rfl, ⟨nd, rfl⟩⟩; refine ⟨_, rfl, ?_⟩) | (go_at_call 91; (with_reducible refine (spec_l1In.calls a0_1 0 999 true _ A5.out).mono ?_); rintro e w' ⟨rfl, ⟨nd, rfl⟩⟩; obtain ⟨_, _, _, _, _, _, _, _, _, _, _, _, _, _, _, _, _, _⟩ := bc9 BK464) | (go_at_call 110; (with_reducible refine (spec_l19Kind.calls k a1_0 a1_1 a1_2 a1_3 a1_4 _ _ l1_5 a1_6 a1_7 a1_8 true _ ?side1 ?side2 A7.out).mono ?_); (case side1 => repeat (first | exact (Kd.C_below HR1_5.out PB) | (with_reducible refine Kd.C_alloc ?_ _) | (with_reducible refine Kd.C_drewN ?_ _) | (with_reducible refine Kd.C_drew ?_))); (case side2 => exact HC1_5.out); rintro e w26 ⟨rfl, hb⟩; replace BK463 := kf BK463 hb; replace BK464 := kf BK464 hb; replace HB := bs HB hb; (try clear hb); (try clear hb2); (try clear hk); (try clear hi); obtain ⟨_, _, _, _, _, _, _, _, _, _, _, _, _, _, _, _, _, _⟩ := bc9 BK464) | (go_at_call 91; (with_reducible refine (spec_l1In.calls a1_2 0 99 false _ A9.out).mono ?_); rintro e w' ⟨rfl, ⟨nd, rfl⟩⟩))
     go_ret
     exact ⟨RT, PB⟩
   ·replace c8 := Bool.eq_false_iff.mpr c8
    subst c8
    have H1 : (some false) = some r := by rw [if_neg (show ¬ (false = true) by decide)] at H; exact H
    clear H; have H := H1; clear H1
    obtain rfl := Option.some.inj H
    go_enter Try.func113, Try.ntmps113
    go_wp2_with (first | ((with_reducible refine gate_dst (N := 2) rfl ?_); refine bx_ (N := 2) #[.int .i64 a0_0, .int .i64 a0_1, .int .i64 a0_2, .bool a0_3] 85 ?_; intro gb463 hg w28 hbox hb; have BK463 := ak hbox; have GW463 := gy hg HB; have GE463 := gy hg HB; replace HB := bs HB hb; clear hb hbox hg) | ((with_reducible refine gate_dst (N := 3) rfl ?_); refine bx_ (N := 3) #[.int .i64 a1_0, .int .i64 a1_1, .int .i64 a1_2, .int .i64 a1_3, .int .i64 a1_4, .slice A1_5 l1_5.length c1_5, .int .i64 a1_6, .int .i64 a1_7, .int .i64 a1_8] 40 ?_; intro gb464 hg w29 hbox hb; have BK464 := ak hbox; have GW464 := gy hg HB; have GE464 := gy hg HB; replace HB := bs HB hb; have NB463_464 := gm hg BK463; have NB464_463 := gn hg BK463; replace BK463 := kf BK463 hb; clear hb hbox hg; have hnb30 := NB463_464.out; have hnc30 := NB464_463.out; obtain ⟨_, _, _, _, _, _, _, _⟩ := bc4 BK463) | ((with_reducible refine gate_callee (f := 91) rfl ?_); refine goesL_ (some 7) rfl rfl Try.func91 KR rfl #[.int .i64 a0_0, .int .i64 0, .int .i64 999] rfl AR ?_; (with_reducible refine (spec_l1In.calls a0_0 0 999 true _ A3.out).mono ?_); rintro e w' ⟨rfl, ⟨nd, rfl⟩⟩; refine ⟨_, rfl, ?_⟩) | (go_at_call 91; (with_reducible refine (spec_l1In.calls a0_1 0 999 true _ A5.out).mono ?_); rintro e w' ⟨rfl, ⟨nd, rfl⟩⟩; obtain ⟨_, _, _, _, _, _, _, _, _, _, _, _, _, _, _, _, _, _⟩ := bc9 BK464) | (go_at_call 110; (with_reducible refine (spec_l19Kind.calls k a1_0 a1_1 a1_2 a1_3 a1_4 _ _ l1_5 a1_6 a1_7 a1_8 false _ ?side1 ?side2 A7.out).mono ?_); (case side1 => repeat (first | exact (Kd.C_below HR1_5.out PB) | (with_reducible refine Kd.C_alloc ?_ _) | (with_reducible refine Kd.C_drewN ?_ _) | (with_reducible refine Kd.C_drew ?_))); (case side2 => exact HC1_5.out); rintro e w33 ⟨rfl, hb⟩; replace BK463 := kf BK463 hb; replace BK464 := kf BK464 hb; replace HB := bs HB hb; (try clear hb); (try clear hb2); (try clear hk); (try clear hi)))
    go_ret
    exact ⟨RT, PB⟩
  ·replace c6 := Bool.eq_false_iff.mpr c6
   subst c6
   have H1 : (some false) = some r := by rw [if_neg (show ¬ (false = true) by decide)] at H; exact H
   clear H; have H := H1; clear H1
   obtain rfl := Option.some.inj H
   go_enter Try.func113, Try.ntmps113
   go_wp2_with (first | ((with_reducible refine gate_dst (N := 2) rfl ?_); refine bx_ (N := 2) #[.int .i64 a0_0, .int .i64 a0_1, .int .i64 a0_2, .bool a0_3] 85 ?_; intro gb463 hg w34 hbox hb; have BK463 := ak hbox; have GW463 := gy hg HB; have GE463 := gy hg HB; replace HB := bs HB hb; clear hb hbox hg) | ((with_reducible refine gate_dst (N := 3) rfl ?_); refine bx_ (N := 3) #[.int .i64 a1_0, .int .i64 a1_1, .int .i64 a1_2, .int .i64 a1_3, .int .i64 a1_4, .slice A1_5 l1_5.length c1_5, .int .i64 a1_6, .int .i64 a1_7, .int .i64 a1_8] 40 ?_; intro gb464 hg w35 hbox hb; have BK464 := ak hbox; have GW464 := gy hg HB; have GE464 := gy hg HB; replace HB := bs HB hb; have NB463_464 := gm hg BK463; have NB464_463 := gn hg BK463; replace BK463 := kf BK463 hb; clear hb hbox hg; have hnb36 := NB463_464.out; have hnc36 := NB464_463.out; obtain ⟨_, _, _, _, _, _, _, _⟩ := bc4 BK463) | ((with_reducible refine gate_callee (f := 91) rfl ?_); refine goesL_ (some 7) rfl rfl Try.func91 KR rfl #[.int .i64 a0_0, .int .i64 0, .int .i64 999] rfl AR ?_; (with_reducible refine (spec_l1In.calls a0_0 0 999 true _ A3.out).mono ?_); rintro e w' ⟨rfl, ⟨nd, rfl⟩⟩; refine ⟨_, rfl, ?_⟩) | (go_at_call 91; (with_reducible refine (spec_l1In.calls a0_1 0 999 false _ A5.out).mono ?_); rintro e w' ⟨rfl, ⟨nd, rfl⟩⟩))
   go_ret
   exact ⟨RT, PB⟩
 ·replace c4 := Bool.eq_false_iff.mpr c4
  subst c4
  have H1 : (some false) = some r := by rw [if_neg (show ¬ (false = true) by decide)] at H; exact H
  clear H; have H := H1; clear H1
  obtain rfl := Option.some.inj H
  go_enter Try.func113, Try.ntmps113
  go_wp2_with (first | ((with_reducible refine gate_dst (N := 2) rfl ?_); refine bx_ (N := 2) #[.int .i64 a0_0, .int .i64 a0_1, .int .i64 a0_2, .bool a0_3] 85 ?_; intro gb463 hg w38 hbox hb; have BK463 := ak hbox; have GW463 := gy hg HB; have GE463 := gy hg HB; replace HB := bs HB hb; clear hb hbox hg) | ((with_reducible refine gate_dst (N := 3) rfl ?_); refine bx_ (N := 3) #[.int .i64 a1_0, .int .i64 a1_1, .int .i64 a1_2, .int .i64 a1_3, .int .i64 a1_4, .slice A1_5 l1_5.length c1_5, .int .i64 a1_6, .int .i64 a1_7, .int .i64 a1_8] 40 ?_; intro gb464 hg w39 hbox hb; have BK464 := ak hbox; have GW464 := gy hg HB; have GE464 := gy hg HB; replace HB := bs HB hb; have NB463_464 := gm hg BK463; have NB464_463 := gn hg BK463; replace BK463 := kf BK463 hb; clear hb hbox hg; have hnb40 := NB463_464.out; have hnc40 := NB464_463.out; obtain ⟨_, _, _, _, _, _, _, _⟩ := bc4 BK463) | ((with_reducible refine gate_callee (f := 91) rfl ?_); refine goesL_ (some 7) rfl rfl Try.func91 KR rfl #[.int .i64 a0_0, .int .i64 0, .int .i64 999] rfl AR ?_; (with_reducible refine (spec_l1In.calls a0_0 0 999 false _ A3.out).mono ?_); rintro e w' ⟨rfl, ⟨nd, rfl⟩⟩; refine ⟨_, rfl, ?_⟩))
  go_ret
  exact ⟨RT, PB⟩

/-! ### spec_Mod: function 146 -/
def spec_Mod.f (a0 : Int) (a1 : Int) : Option (Int) := (spec_l1In.f a1 1 1000000000000).bind fun t470 => (if t470 = true then (if a1 = 0 then (none) else (some (Int.tmod (wrap64 ((Int.tmod a0 a1) + a1)) a1))) else (some 0))
set_option maxHeartbeats 8000000 in
set_option maxRecDepth 100000 in
theorem spec_Mod.calls (a0 : Int) (a1 : Int) (r : Int) (w : World) (h : spec_Mod.f a0 a1 = some r) :
  Calls Try.prog 146 #[.int .i64 a0, .int .i64 a1] w fun e w' => e = .returned (.int .i64 r) ∧ Drawn0 w w' := by
 have H : ((spec_l1In.f a1 1 1000000000000).bind fun t470 => (if t470 = true then (if a1 = 0 then (none) else (some (Int.tmod (wrap64 ((Int.tmod a0 a1) + a1)) a1))) else (some 0))) = some r := h
 clear h; replace H := Option.bind_eq_some_iff.mp H
 obtain ⟨t470, A30, H⟩ := H
 replace H : (if t470 = true then (if a1 = 0 then (none) else (some (Int.tmod (wrap64 ((Int.tmod a0 a1) + a1)) a1))) else (some 0)) = some r := H
 have A3 := Aside0.mk A30; clear A30
 by_cases c4 : t470 = true
 ·subst c4
  have H1 : (if a1 = 0 then (none) else (some (Int.tmod (wrap64 ((Int.tmod a0 a1) + a1)) a1))) = some r := by rw [if_pos rfl] at H; exact H
  clear H; have H := H1; clear H1
  by_cases c5 : a1 = 0
  ·rw [if_pos c5] at H
   exact absurd H (by simp)
  ·rw [if_neg c5] at H
   have c5b0 : (a1 == 0) = false := beq_eq_false_iff_ne.mpr c5
   have c5b1 : (a1 != 0) = true := bne_iff_ne.mpr c5
   obtain rfl := Option.some.inj H
   go_enter Try.func146, Try.ntmps146
   go_wp2_with (first | ((with_reducible refine gate_callee (f := 91) rfl ?_); refine goesL_ (some 6) rfl rfl Try.func91 KR rfl #[.int .i64 a1, .int .i64 1, .int .i64 1000000000000] rfl AR ?_; (with_reducible refine (spec_l1In.calls a1 1 1000000000000 true _ A3.out).mono ?_); rintro e w' ⟨rfl, ⟨nd, rfl⟩⟩; refine ⟨_, rfl, ?_⟩))
   go_ret
   exact ⟨by first | rfl | (simp; done) | (simp [*]; done), by repeat (first | exact Drawn0.refl _ | apply Drawn0.step)⟩
 ·replace c4 := Bool.eq_false_iff.mpr c4
  subst c4
  have H1 : (some 0) = some r := by rw [if_neg (show ¬ (false = true) by decide)] at H; exact H
  clear H; have H := H1; clear H1
  obtain rfl := Option.some.inj H
  go_enter Try.func146, Try.ntmps146
  go_wp2_with (first | ((with_reducible refine gate_callee (f := 91) rfl ?_); refine goesL_ (some 6) rfl rfl Try.func91 KR rfl #[.int .i64 a1, .int .i64 1, .int .i64 1000000000000] rfl AR ?_; (with_reducible refine (spec_l1In.calls a1 1 1000000000000 false _ A3.out).mono ?_); rintro e w' ⟨rfl, ⟨nd, rfl⟩⟩; refine ⟨_, rfl, ?_⟩))
  go_ret
  exact ⟨by first | rfl | (simp; done) | (simp [*]; done), by repeat (first | exact Drawn0.refl _ | apply Drawn0.step)⟩

/-! ### spec_l19Step: function 112 -/
def spec_l19Step.l0 : Nat → Int → Int → Int → Int → Int → Int → List Int → Int → Int → Int → Int → Int → Int → Int → Int → List Int → Int → Int → Int → Option (Int × Int)
  | 0, _, _, _, _, _, _, _, _, _, _, _, _, _, _, _, _, _, _, _ => none
  | k + 1, x6, x472000, x472001, x472002, x472003, x472004, x472005, x472006, x472007, x472008, x473000, x473001, x473002, x473003, x473004, x473005, x473006, x473007, x473008 => if x6 < 1000 then ((spec_ValueOfResource.f k x472004 x472005 x472006 x472007 x472008).bind fun t473 => ((spec_Mod.f (wrap64 (t473 - (wrap64 (x6 * x472002)))) 1000).bind fun t474 => ((spec_FitsForm.f k t474 x6 0 false x473000 x473001 x473002 x473003 x473004 x473005 x473006 x473007 x473008).bind fun t475 => (if t475 = true then (some (x6, t474)) else (spec_l19Step.l0 k (wrap64 (x6 + 1)) x472000 x472001 x472002 x472003 x472004 x472005 x472006 x472007 x472008 x473000 x473001 x473002 x473003 x473004 x473005 x473006 x473007 x473008))))) else (some ((-1), (-1)))
def spec_l19Step.f (k : Nat) (a0_0 : Int) (a0_1 : Int) (a0_2 : Int) (a0_3 : Int) (a0_4 : Int) (l0_5 : List Int) (a0_6 : Int) (a0_7 : Int) (a0_8 : Int) (a1_0 : Int) (a1_1 : Int) (a1_2 : Int) (a1_3 : Int) (a1_4 : Int) (l1_5 : List Int) (a1_6 : Int) (a1_7 : Int) (a1_8 : Int) : Option (Int × Int) := spec_l19Step.l0 k 0 a0_0 a0_1 a0_2 a0_3 a0_4 l0_5 a0_6 a0_7 a0_8 a1_0 a1_1 a1_2 a1_3 a1_4 l1_5 a1_6 a1_7 a1_8
def spec_l19Step.T4 : Bool × List (List Nat × List Nat) := (true, [([], []), ([0], [0]), ([1], [1]), ([], []), ([], []), ([4], [4]), ([5], [5]), ([3, 6], [3, 6]), ([2, 7], [2, 7]), ([8, 2], [8]), ([9, 9, 0, 1, 2, 3, 4, 5, 6, 7, 8, 9], [9])])
def spec_l19Step.B4 : List Nat := [0, 1, 3, 0, 0, 16, 48, 120, 255, 511, 1023]
theorem spec_l19Step.tab4 : rtab .any (opsOf Try.f112 4) = spec_l19Step.T4 := by kernel_rfl
theorem spec_l19Step.bits4 : waitsOk spec_l19Step.T4.2 spec_l19Step.B4 = true := by kernel_rfl
set_option maxHeartbeats 8000000 in
set_option maxRecDepth 100000 in
theorem spec_l19Step.calls (k : Nat) (a0_0 : Int) (a0_1 : Int) (a0_2 : Int) (a0_3 : Int) (a0_4 : Int) (A0_5 : Option Addr) (c0_5 : Nat) (l0_5 : List Int) (a0_6 : Int) (a0_7 : Int) (a0_8 : Int) (a1_0 : Int) (a1_1 : Int) (a1_2 : Int) (a1_3 : Int) (a1_4 : Int) (A1_5 : Option Addr) (c1_5 : Nat) (l1_5 : List Int) (a1_6 : Int) (a1_7 : Int) (a1_8 : Int) (r1 : Int) (r2 : Int) (w : World) (hr0_5 : Kd.C (Kd.int .i64) w A0_5 l0_5.length l0_5) (hc0_5 : l0_5.length ≤ c0_5) (hr1_5 : Kd.C (Kd.int .i64) w A1_5 l1_5.length l1_5) (hc1_5 : l1_5.length ≤ c1_5) (h : spec_l19Step.f k a0_0 a0_1 a0_2 a0_3 a0_4 l0_5 a0_6 a0_7 a0_8 a1_0 a1_1 a1_2 a1_3 a1_4 l1_5 a1_6 a1_7 a1_8 = some (r1, r2)) :
  Calls Try.prog 112 #[.agg #[.int .i64 a0_0, .int .i64 a0_1, .int .i64 a0_2, .int .i64 a0_3, .int .i64 a0_4, .slice A0_5 l0_5.length c0_5, .int .i64 a0_6, .int .i64 a0_7, .int .i64 a0_8], .agg #[.int .i64 a1_0, .int .i64 a1_1, .int .i64 a1_2, .int .i64 a1_3, .int .i64 a1_4, .slice A1_5 l1_5.length c1_5, .int .i64 a1_6, .int .i64 a1_7, .int .i64 a1_8]] w fun e w' => e = .returned (.tuple #[.int .i64 r1, .int .i64 r2]) ∧ Below w.heap.size w w' := by
 have hu40 := Try.underlying40; have hu38 := Try.underlying38; have hu85 := Try.underlying85; have HR0_5 := Aside0.mk hr0_5; have HC0_5 := Aside0.mk hc0_5; clear hr0_5 hc0_5; have HR1_5 := Aside0.mk hr1_5; have HC1_5 := Aside0.mk hc1_5; clear hr1_5 hc1_5; have HB := ak (Below.refl w.heap.size w)
 have H : (spec_l19Step.l0 k 0 a0_0 a0_1 a0_2 a0_3 a0_4 l0_5 a0_6 a0_7 a0_8 a1_0 a1_1 a1_2 a1_3 a1_4 l1_5 a1_6 a1_7 a1_8) = some (r1, r2) := h
 clear h
 have H' := Aside0.mk H
 clear H
 go_enter Try.func112, Try.ntmps112
 go_wp2_with (first | ((with_reducible refine gate_dst (N := 2) rfl ?_); refine bx_ (N := 2) #[.int .i64 a0_0, .int .i64 a0_1, .int .i64 a0_2, .int .i64 a0_3, .int .i64 a0_4, .slice A0_5 l0_5.length c0_5, .int .i64 a0_6, .int .i64 a0_7, .int .i64 a0_8] 40 ?_; intro gb471 hg w3 hbox hb; have BK471 := ak hbox; have GW471 := gy hg HB; have GE471 := gy hg HB; replace HB := bs HB hb; clear hb hbox hg) | ((with_reducible refine gate_dst (N := 3) rfl ?_); refine bx_ (N := 3) #[.int .i64 a1_0, .int .i64 a1_1, .int .i64 a1_2, .int .i64 a1_3, .int .i64 a1_4, .slice A1_5 l1_5.length c1_5, .int .i64 a1_6, .int .i64 a1_7, .int .i64 a1_8] 40 ?_; intro gb472 hg w4 hbox hb; have BK472 := ak hbox; have GW472 := gy hg HB; have GE472 := gy hg HB; replace HB := bs HB hb; have NB471_472 := gm hg BK471; have NB472_471 := gn hg BK471; replace BK471 := kf BK471 hb; clear hb hbox hg))
 go_loopg [6] k (fun kq v6 w' => ∃ (x6_1 : Int), v6 = .int .i64 x6_1 ∧ Aside0 (spec_l19Step.l0 kq x6_1 a0_0 a0_1 a0_2 a0_3 a0_4 l0_5 a0_6 a0_7 a0_8 a1_0 a1_1 a1_2 a1_3 a1_4 l1_5 a1_6 a1_7 a1_8 = some (r1, r2)) ∧ Aside0 (kq ≤ k) ∧ Aside0 (w'.heap[gb471]? = some (.cells #[.int .i64 a0_0, .int .i64 a0_1, .int .i64 a0_2, .int .i64 a0_3, .int .i64 a0_4, (.slice A0_5 l0_5.length c0_5), .int .i64 a0_6, .int .i64 a0_7, .int .i64 a0_8] 40 (0, 0))) ∧ Aside0 (w'.heap[gb472]? = some (.cells #[.int .i64 a1_0, .int .i64 a1_1, .int .i64 a1_2, .int .i64 a1_3, .int .i64 a1_4, (.slice A1_5 l1_5.length c1_5), .int .i64 a1_6, .int .i64 a1_7, .int .i64 a1_8] 40 (0, 0))) ∧ Aside0 (Below w.heap.size w w'))
 case atStart => exact ⟨(0), (by first | rfl | (simp; done) | (simp [*]; done)), H', ⟨Nat.le_refl _⟩, ⟨PK BK471⟩, ⟨PK BK472⟩, ⟨PB⟩⟩
 case round =>
  clear H'
  (try clear c1); (try clear p2)
  obtain ⟨x6_1, rfl, HA, HK1, BK471, BK472, HB⟩ := hrel
  cases gk with
  | zero => exact absurd HA.out (by simp [spec_l19Step.l0])
  | succ k1 =>
   have H := HA.out; clear HA
   simp only [spec_l19Step.l0] at H
   by_cases c5 : x6_1 < 1000
   ·rw [if_pos c5] at H
    have c5b0 : decide (x6_1 < 1000) = true := decide_eq_true c5
    clear c5; replace H := Option.bind_eq_some_iff.mp H
    obtain ⟨t473, A60, H⟩ := H
    replace H : ((spec_Mod.f (wrap64 (t473 - (wrap64 (x6_1 * a0_2)))) 1000).bind fun t474 => ((spec_FitsForm.f k1 t474 x6_1 0 false a1_0 a1_1 a1_2 a1_3 a1_4 l1_5 a1_6 a1_7 a1_8).bind fun t475 => (if t475 = true then (some (x6_1, t474)) else (spec_l19Step.l0 k1 (wrap64 (x6_1 + 1)) a0_0 a0_1 a0_2 a0_3 a0_4 l0_5 a0_6 a0_7 a0_8 a1_0 a1_1 a1_2 a1_3 a1_4 l1_5 a1_6 a1_7 a1_8)))) = some (r1, r2) := H
    have A6 := Aside0.mk A60; clear A60; replace H := Option.bind_eq_some_iff.mp H
    obtain ⟨t474, A70, H⟩ := H
    replace H : ((spec_FitsForm.f k1 t474 x6_1 0 false a1_0 a1_1 a1_2 a1_3 a1_4 l1_5 a1_6 a1_7 a1_8).bind fun t475 => (if t475 = true then (some (x6_1, t474)) else (spec_l19Step.l0 k1 (wrap64 (x6_1 + 1)) a0_0 a0_1 a0_2 a0_3 a0_4 l0_5 a0_6 a0_7 a0_8 a1_0 a1_1 a1_2 a1_3 a1_4 l1_5 a1_6 a1_7 a1_8))) = some (r1, r2) := H
    have A7 := Aside0.mk A70; clear A70; replace H := Option.bind_eq_some_iff.mp H
    obtain ⟨t475, A80, H⟩ := H
    replace H : (if t475 = true then (some (x6_1, t474)) else (spec_l19Step.l0 k1 (wrap64 (x6_1 + 1)) a0_0 a0_1 a0_2 a0_3 a0_4 l0_5 a0_6 a0_7 a0_8 a1_0 a1_1 a1_2 a1_3 a1_4 l1_5 a1_6 a1_7 a1_8)) = some (r1, r2) := H
    have A8 := Aside0.mk A80; clear A80
    by_cases c9 : t475 = true
    ·subst c9
     have H1 : (some (x6_1, t474)) = some (r1, r2) := by rw [if_pos rfl] at H; exact H
     clear H; have H := H1; clear H1
     simp only [Option.some.injEq, Prod.mk.injEq] at H
     obtain ⟨rfl, rfl⟩ := H
     try go_wp2
     replace BK471 := ak (blk_drew BK471.out); replace BK472 := ak (blk_drew BK472.out); replace HB := ak (below_drew1 HB.out)
     refine start_ (n := 11) (S := fun w' => w'.cell? ⟨gb471, 0, none⟩ = some (.int .i64 a0_0) ∧ w'.cell? ⟨gb471, 1, none⟩ = some (.int .i64 a0_1) ∧ w'.cell? ⟨gb471, 2, none⟩ = some (.int .i64 a0_2) ∧ w'.cell? ⟨gb471, 3, none⟩ = some (.int .i64 a0_3) ∧ w'.cell? ⟨gb471, 4, none⟩ = some (.int .i64 a0_4) ∧ w'.cell? ⟨gb471, 5, none⟩ = some (.slice A0_5 l0_5.length c0_5) ∧ w'.cell? ⟨gb471, 6, none⟩ = some (.int .i64 a0_6) ∧ w'.cell? ⟨gb471, 7, none⟩ = some (.int .i64 a0_7) ∧ w'.cell? ⟨gb471, 8, none⟩ = some (.int .i64 a0_8)) (ds := []) b13_11 KR rfl rfl ⟨bq BK471 0, bq BK471 1, bq BK471 2, bq BK471 3, bq BK471 4, bq BK471 5, bq BK471 6, bq BK471 7, bq BK471 8⟩ (fun hHeld => ?_); refine with_tabW spec_l19Step.tab4 spec_l19Step.bits4 (fun HT_ HW_ => ?_)
     generalize wr.drew = w10 at BK471 BK472 HB hHeld ⊢
     refine pu_ (i := 0) (N := some 12) b13_10 HT_ ?_
     refine pu_ (i := 3) (N := some 15) b13_9 HT_ ?_
     refine pu_ (i := 4) (N := some 16) b13_8 HT_ ?_
     refine pu_ (i := 5) (N := some 17) b13_7 HT_ ?_
     refine tk_ (i := 1) (N := some 13) b13_6 rfl rfl HT_ HW_ hHeld ?_
     refine take_ (i := 6) (N := some 18) (v := ?_) (a' := ?_) b13_5 rfl rfl (take_ofW HT_.out HW_.out KR) (fun _ _ _ h => h) (Or.inl ⟨by rfl, ?_⟩) hHeld ?_ ?_
     rotate_left
     ·rintro w' ⟨s0, s1, s2, s3, s4, s5, s6, s7, s8⟩
      go_simp
      with_reducible rfl
     rotate_left
     ·simp only [Act.put, List.setIfInBounds_toArray, List.set_cons_zero, List.set_cons_succ, i64_w, i32_w]
      rfl
     refine pu_ (i := 7) (N := some 19) b13_4 HT_ ?_
     refine one_ (i := 2) (N := some 14) b13_3 rfl rfl (one_of HT_.out KR) (by decide) (fun K hK => ?_)
     refine goes_ Try.func111 KR rfl #[.agg #[.int .i64 a0_4, .slice A0_5 l0_5.length c0_5, .int .i64 a0_6, .int .i64 a0_7, .int .i64 a0_8]] (by rfl) rfl rfl AR ?_
     with_reducible refine (spec_ValueOfResource.calls k1 a0_4 _ _ l0_5 a0_6 a0_7 a0_8 t473 _ ?side1 ?side2 A6.out).mono ?_
     (case side1 => exact CR (Kd.C_below HR0_5.out HB.out))
     (case side2 => exact HC0_5.out)
     rintro e w11 ⟨rfl, hb⟩
     refine ⟨_, rfl, ?_⟩; replace BK471 := kf BK471 hb; replace BK472 := kf BK472 hb; replace HB := bs HB hb
     (try clear hb); (try clear hb2); (try clear hk); (try clear hi)
     refine hK.out _ _ ⟨bq BK471 0, bq BK471 1, bq BK471 2, bq BK471 3, bq BK471 4, bq BK471 5, bq BK471 6, bq BK471 7, bq BK471 8⟩ (fun hHeld => ?_)
     clear hK K
     refine norm_ (a' := ?_) ?_ ?_
     rotate_left
     ·show Act.put _ (some 14) _ = _
      simp only [Act.put, List.setIfInBounds_toArray, List.set_cons_zero, List.set_cons_succ, i64_w, i32_w]
      rfl
     refine pu_ (i := 8) (N := some 20) b13_2 HT_ ?_
     refine one_ (i := 9) (N := some 21) b13_1 rfl rfl (one_of HT_.out KR) (by decide) (fun K hK => ?_)
     refine goes_ Try.func146 KR rfl #[.int .i64 (wrap64 (t473 - (wrap64 (x6_1 * a0_2)))), .int .i64 1000] (by rfl) rfl rfl AR ?_
     with_reducible refine (spec_Mod.calls (wrap64 (t473 - (wrap64 (x6_1 * a0_2)))) 1000 t474 _ A7.out).mono ?_
     rintro e w' ⟨rfl, ⟨nd, rfl⟩⟩
     refine ⟨_, rfl, ?_⟩
     refine hK.out _ _ ⟨bq BK471 0, bq BK471 1, bq BK471 2, bq BK471 3, bq BK471 4, bq BK471 5, bq BK471 6, bq BK471 7, bq BK471 8⟩ (fun hHeld => ?_)
     clear hK K
     refine norm_ (a' := ?_) ?_ ?_
     rotate_left
     ·show Act.put _ (some 21) _ = _
      simp only [Act.put, List.setIfInBounds_toArray, List.set_cons_zero, List.set_cons_succ, i64_w, i32_w]
      rfl
     refine pu_ (i := 10) (N := some 7) b13_0 HT_ ?_
     refine done_ (done_of HT_.out KR) ?_
     have hnb12 := NB472_471.out; have hnc12 := NB471_472.out
     obtain ⟨_, _, _, _, _, _, _, _, _, _, _, _, _, _, _, _, _, _⟩ := bc9 BK472
     try go_wp2_with (first | ((with_reducible refine gate_callee (f := 113) rfl ?_); refine goesL_ (some 26) rfl rfl Try.func113 KR rfl #[.agg #[.int .i64 t474, .int .i64 x6_1, .int .i64 0, .bool false], .agg #[.int .i64 a1_0, .int .i64 a1_1, .int .i64 a1_2, .int .i64 a1_3, .int .i64 a1_4, .slice A1_5 l1_5.length c1_5, .int .i64 a1_6, .int .i64 a1_7, .int .i64 a1_8]] rfl AR ?_; (with_reducible refine (spec_FitsForm.calls k1 t474 x6_1 0 false a1_0 a1_1 a1_2 a1_3 a1_4 _ _ l1_5 a1_6 a1_7 a1_8 true _ ?side1 ?side2 A8.out).mono ?_); (case side1 => repeat (first | exact (Kd.C_below HR1_5.out PB) | (with_reducible refine Kd.C_alloc ?_ _) | (with_reducible refine Kd.C_drewN ?_ _) | (with_reducible refine Kd.C_drew ?_))); (case side2 => exact HC1_5.out); rintro e w14 ⟨rfl, hb⟩; refine ⟨_, rfl, ?_⟩; replace BK471 := kf BK471 hb; replace BK472 := kf BK472 hb; replace HB := bs HB hb; (try clear hb); (try clear hb2); (try clear hk); (try clear hi)))
     go_ret2
     exact ⟨RT, PB⟩
    ·replace c9 := Bool.eq_false_iff.mpr c9
     subst c9
     have H1 : (spec_l19Step.l0 k1 (wrap64 (x6_1 + 1)) a0_0 a0_1 a0_2 a0_3 a0_4 l0_5 a0_6 a0_7 a0_8 a1_0 a1_1 a1_2 a1_3 a1_4 l1_5 a1_6 a1_7 a1_8) = some (r1, r2) := by rw [if_neg (show ¬ (false = true) by decide)] at H; exact H
     clear H; have H := H1; clear H1
     have H' := Aside0.mk H
     clear H
     try go_wp2
     replace BK471 := ak (blk_drew BK471.out); replace BK472 := ak (blk_drew BK472.out); replace HB := ak (below_drew1 HB.out)
     refine start_ (n := 11) (S := fun w' => w'.cell? ⟨gb471, 0, none⟩ = some (.int .i64 a0_0) ∧ w'.cell? ⟨gb471, 1, none⟩ = some (.int .i64 a0_1) ∧ w'.cell? ⟨gb471, 2, none⟩ = some (.int .i64 a0_2) ∧ w'.cell? ⟨gb471, 3, none⟩ = some (.int .i64 a0_3) ∧ w'.cell? ⟨gb471, 4, none⟩ = some (.int .i64 a0_4) ∧ w'.cell? ⟨gb471, 5, none⟩ = some (.slice A0_5 l0_5.length c0_5) ∧ w'.cell? ⟨gb471, 6, none⟩ = some (.int .i64 a0_6) ∧ w'.cell? ⟨gb471, 7, none⟩ = some (.int .i64 a0_7) ∧ w'.cell? ⟨gb471, 8, none⟩ = some (.int .i64 a0_8)) (ds := []) b13_11 KR rfl rfl ⟨bq BK471 0, bq BK471 1, bq BK471 2, bq BK471 3, bq BK471 4, bq BK471 5, bq BK471 6, bq BK471 7, bq BK471 8⟩ (fun hHeld => ?_); refine with_tabW spec_l19Step.tab4 spec_l19Step.bits4 (fun HT_ HW_ => ?_)
     generalize wr.drew = w15 at BK471 BK472 HB hHeld ⊢
     refine pu_ (i := 0) (N := some 12) b13_10 HT_ ?_
     refine pu_ (i := 3) (N := some 15) b13_9 HT_ ?_
     refine pu_ (i := 4) (N := some 16) b13_8 HT_ ?_
     refine pu_ (i := 5) (N := some 17) b13_7 HT_ ?_
     refine tk_ (i := 1) (N := some 13) b13_6 rfl rfl HT_ HW_ hHeld ?_
     refine take_ (i := 6) (N := some 18) (v := ?_) (a' := ?_) b13_5 rfl rfl (take_ofW HT_.out HW_.out KR) (fun _ _ _ h => h) (Or.inl ⟨by rfl, ?_⟩) hHeld ?_ ?_
     rotate_left
     ·rintro w' ⟨s0, s1, s2, s3, s4, s5, s6, s7, s8⟩
      go_simp
      with_reducible rfl
     rotate_left
     ·simp only [Act.put, List.setIfInBounds_toArray, List.set_cons_zero, List.set_cons_succ, i64_w, i32_w]
      rfl
     refine pu_ (i := 7) (N := some 19) b13_4 HT_ ?_
     refine one_ (i := 2) (N := some 14) b13_3 rfl rfl (one_of HT_.out KR) (by decide) (fun K hK => ?_)
     refine goes_ Try.func111 KR rfl #[.agg #[.int .i64 a0_4, .slice A0_5 l0_5.length c0_5, .int .i64 a0_6, .int .i64 a0_7, .int .i64 a0_8]] (by rfl) rfl rfl AR ?_
     with_reducible refine (spec_ValueOfResource.calls k1 a0_4 _ _ l0_5 a0_6 a0_7 a0_8 t473 _ ?side1 ?side2 A6.out).mono ?_
     (case side1 => exact CR (Kd.C_below HR0_5.out HB.out))
     (case side2 => exact HC0_5.out)
     rintro e w16 ⟨rfl, hb⟩
     refine ⟨_, rfl, ?_⟩; replace BK471 := kf BK471 hb; replace BK472 := kf BK472 hb; replace HB := bs HB hb
     (try clear hb); (try clear hb2); (try clear hk); (try clear hi)
     refine hK.out _ _ ⟨bq BK471 0, bq BK471 1, bq BK471 2, bq BK471 3, bq BK471 4, bq BK471 5, bq BK471 6, bq BK471 7, bq BK471 8⟩ (fun hHeld => ?_)
     clear hK K
     refine norm_ (a' := ?_) ?_ ?_
     rotate_left
     ·show Act.put _ (some 14) _ = _
      simp only [Act.put, List.setIfInBounds_toArray, List.set_cons_zero, List.set_cons_succ, i64_w, i32_w]
      rfl
     refine pu_ (i := 8) (N := some 20) b13_2 HT_ ?_
     refine one_ (i := 9) (N := some 21) b13_1 rfl rfl (one_of HT_.out KR) (by decide) (fun K hK => ?_)
     refine goes_ Try.func146 KR rfl #[.int .i64 (wrap64 (t473 - (wrap64 (x6_1 * a0_2)))), .int .i64 1000] (by rfl) rfl rfl AR ?_
     with_reducible refine (spec_Mod.calls (wrap64 (t473 - (wrap64 (x6_1 * a0_2)))) 1000 t474 _ A7.out).mono ?_
     rintro e w' ⟨rfl, ⟨nd, rfl⟩⟩
     refine ⟨_, rfl, ?_⟩
     refine hK.out _ _ ⟨bq BK471 0, bq BK471 1, bq BK471 2, bq BK471 3, bq BK471 4, bq BK471 5, bq BK471 6, bq BK471 7, bq BK471 8⟩ (fun hHeld => ?_)
     clear hK K
     refine norm_ (a' := ?_) ?_ ?_
     rotate_left
     ·show Act.put _ (some 21) _ = _
      simp only [Act.put, List.setIfInBounds_toArray, List.set_cons_zero, List.set_cons_succ, i64_w, i32_w]
      rfl
     refine pu_ (i := 10) (N := some 7) b13_0 HT_ ?_
     refine done_ (done_of HT_.out KR) ?_
     have hnb17 := NB472_471.out; have hnc17 := NB471_472.out
     obtain ⟨hcz18_0, hcz18_1, hcz18_2, hcz18_3, hcz18_4, hcz18_5, hcz18_6, hcz18_7, hcz18_8, hfz18_0, hfz18_1, hfz18_2, hfz18_3, hfz18_4, hfz18_5, hfz18_6, hfz18_7, hfz18_8⟩ := bc9 BK472
     try go_wp2_with (first | ((with_reducible refine gate_callee (f := 113) rfl ?_); refine goesL_ (some 26) rfl rfl Try.func113 KR rfl #[.agg #[.int .i64 t474, .int .i64 x6_1, .int .i64 0, .bool false], .agg #[.int .i64 a1_0, .int .i64 a1_1, .int .i64 a1_2, .int .i64 a1_3, .int .i64 a1_4, .slice A1_5 l1_5.length c1_5, .int .i64 a1_6, .int .i64 a1_7, .int .i64 a1_8]] rfl AR ?_; (with_reducible refine (spec_FitsForm.calls k1 t474 x6_1 0 false a1_0 a1_1 a1_2 a1_3 a1_4 _ _ l1_5 a1_6 a1_7 a1_8 false _ ?side1 ?side2 A8.out).mono ?_); (case side1 => repeat (first | exact (Kd.C_below HR1_5.out PB) | (with_reducible refine Kd.C_alloc ?_ _) | (with_reducible refine Kd.C_drewN ?_ _) | (with_reducible refine Kd.C_drew ?_))); (case side2 => exact HC1_5.out); rintro e w19 ⟨rfl, hb⟩; refine ⟨_, rfl, ?_⟩; replace BK471 := kf BK471 hb; replace BK472 := kf BK472 hb; replace HB := bs HB hb; (try clear hb); (try clear hb2); (try clear hk); (try clear hi)))
     go_roundg k1
     case measure => have := HK1.out; omega
     case rel => exact ⟨(wrap64 (x6_1 + 1)), (by first | rfl | (simp; done) | (simp [*]; done)), H', ⟨by have := HK1.out; omega⟩, ⟨PK BK471⟩, ⟨PK BK472⟩, ⟨PB⟩⟩
   ·rw [if_neg c5] at H
    have c5b0 : decide (x6_1 < 1000) = false := decide_eq_false c5
    clear c5
    simp only [Option.some.injEq, Prod.mk.injEq] at H
    obtain ⟨rfl, rfl⟩ := H
    go_wp2
    go_ret2
    exact ⟨RT, PB⟩

end Go.Proofs.Ytgcamebeonodeaa.MFnForms
