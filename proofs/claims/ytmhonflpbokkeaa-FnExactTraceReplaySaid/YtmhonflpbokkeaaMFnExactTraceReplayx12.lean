-- Written by a program of this session out of the translation's own print. Not trusted: Lean checks it.
import Derived.Test.YtmhonflpbokkeaaShr2
import Derived.Test.YtmhonflpbokkeaaMFnExactTraceReplayx0
namespace Go.Proofs.Ytmhonflpbokkeaa.MFnExactTraceReplay
open Go.RowKit Go.Proofs.YtmhonflpbokkeaaW.PrintWords Go.Proofs.YtmhonflpbokkeaaW.PrintLast Go.Proofs.YtmhonflpbokkeaaW.PrintMore
attribute [local go_sem] max2_int min2_int max_two min_two max_three min_three max_four min_four   -- for this text's walks alone
set_option linter.unusedVariables false
set_option maxHeartbeats 8000000
set_option maxRecDepth 100000
set_option linter.unusedSimpArgs false

/-! ### slices_Clone_int_int: function 127 -/
def slices_Clone_int_int.f (l0 : List Int) : Option (List Int) := (some (([] : List Int) : List Int)).bind fun y354 => (if y354.length + l0.length < 17592186044416 then (some (y354 ++ l0)) else (none))
theorem slices_Clone_int_int.calls (A0 : Option Addr) (c0 : Nat) (l0 : List Int) (r : List Int) (w : World) (hr0 : Kd.C (Kd.int .i64) w A0 l0.length l0) (hc0 : l0.length ≤ c0) (h : slices_Clone_int_int.f l0 = some r) :
  Calls Try.prog 127 #[.slice A0 l0.length c0] w fun e w' => ∃ v0_ : Value, e = .returned (v0_) ∧ Kd.R (Kd.int .i64) 3 w' w.heap.size (fun _ => True) v0_ r ∧ Below w.heap.size w w' := by
 cases A0 with
 | none =>
  have hz_ : l0.length = 0 := C_none_length hr0; obtain rfl : l0 = [] := List.eq_nil_of_length_eq_zero hz_
  obtain rfl : r = [] := by
   have h2_ := h
   simp [slices_Clone_int_int.f] at h2_
   exact h2_
  have hnn_ : ∀ W, (binOp .eql 39 (.slice none 0 c0) (.slice none 0 0)).run Try.prog W = .ok (.bool true) W := fun W => eql_nil_none (P := Try.prog) W 39 3 0 c0 Try.underlying39
  go_enter Try.func127, Try.ntmps127; go_wp2
  go_ret
  exact ⟨_, rfl, Kd.R_nil _ _ _ _ _, Below.refl _ _⟩
 | some ad_ =>
  have hnn_ : ∀ W, (binOp .eql 39 (.slice (some ad_) l0.length c0) (.slice none 0 0)).run Try.prog W = .ok (.bool false) W := fun W => eql_nil_some (P := Try.prog) W 39 3 ad_ l0.length c0 Try.underlying39
  have HR0 := ak hr0; have HC0 := ak hc0; clear hr0 hc0; have HB := ak (Below.refl w.heap.size w); have H := h; clear h; unfold slices_Clone_int_int.f at H; obtain ⟨y354, hy354⟩ : ∃ y_ : List Int, y_ = (([] : List Int)) := ⟨_, rfl⟩
  replace H : (if y354.length + l0.length < 17592186044416 then (some (y354 ++ l0)) else (none)) = some r := by first | (rw [hy354]; with_reducible exact H) | (have H2_ := (Option.bind_some _ _).symm.trans H; rw [hy354]; with_reducible exact H2_) | exact H
  have Ny354 := ak hy354; clear hy354
  by_cases c2 : y354.length + l0.length < 17592186044416
  ·rw [if_pos c2] at H; have LMc2 := ak c2; clear c2; obtain ⟨y357, hy357⟩ : ∃ y_ : List Int, y_ = (y354 ++ l0) := ⟨_, rfl⟩
   replace H : (some y357) = some r := by first | (rw [hy357]; with_reducible exact H) | (have H2_ := (Option.bind_some _ _).symm.trans H; rw [hy357]; with_reducible exact H2_) | exact H
   have Ny357 := ak hy357; clear hy357; obtain rfl := Option.some.inj H; go_enter Try.func127, Try.ntmps127; go_wp2_with (first | ((with_reducible refine gate_dst (N := 5) rfl ?_); refine Kd.R_lit (Kd.int .i64) _ 3 ?hg (N := 5) ?hd (xs := ([] : List Int)) (inner := []) (ok := fun _ => True) (okp := fun _ => True) ?hr ?hp (fun _ hk => hk) trivial (Below.refl _ _) (Nat.le_refl _) (by simp) ?_; (case hd => rfl); (case hg => rfl); (case hr => first | (go_simp; done) | (go_simp; rfl)); (case hp => exact (Reps.none _ _)); intro v355 w3 ho4 hb hg_ hnew_; clear hg_ hnew_; (first | rw [← Ny354.out] at ho4 | (simp only [Int.reduceToNat] at ho4; rw [← Ny354.out] at ho4)); have HO356 := Rn0 ho4 HB; replace HB := bs HB hb; clear hb ho4) | ((with_reducible refine gate_builtin (b := .append) (xs := #[.tmp 5, .tmp 6]) rfl ?_); at_builtin; refine Kd.R_append_rows (Kd.int .i64) (w0 := w) w.heap.size rfl (.tmp 5) (.tmp 6) 39 3 (.int .i64 0) 8 rfl Try.underlying39 info3 rfl (by decide) (by omega) v355 y354 l0 _ _ _ (fun _ => True) (fun _ => False) rfl rfl ?aO ?aR (fun _ _ h => h) (fun _ h => h.elim) ?aF ?aB ?aS ?aL ?_; (case aR => repeat (first | exact (Kd.C_below HR0.out HB.out) | (with_reducible refine Kd.C_alloc ?_ _) | (with_reducible refine Kd.C_drewN ?_ _) | (with_reducible refine Kd.C_drew ?_))); (case aB => exact PB); (case aF => exact (fun _ _ => trivial)); (case aO => exact (PR HO356)); (case aS => exact (below_size PB)); (case aL => have := LMc2.out; omega); intro v358 w5 ho hb hg hat; rw [← Ny357.out] at ho; replace HB := ak hb; have HO359 := ak (ho); clear HO356; clear ho hb hg hat))
   go_ret
   exact ⟨_, RT, by (with_reducible repeat (first | apply Kd.R_alloc | apply Kd.R_drewN | apply Kd.R_drew)); exact HO359.out, PB⟩
  ·rw [if_neg c2] at H; exact absurd H (by simp)

/-! ### impl_copyState: function 68 -/
def impl_copyState.f (a0_0 : Int) (l0_1 : List Int) (l0_2 : List Int) (l0_3 : List Int) : Option (Int × List Int × List Int × List Int) := (slices_Clone_int_int.f l0_1).bind fun t362 => ((slices_Clone_int_int.f l0_2).bind fun t365 => ((slices_Clone_int_int.f l0_3).bind fun t368 => (some (a0_0, t362, t365, t368))))
def impl_copyState.T1 : Bool × List (List Nat × List Nat) := (true, [([], []), ([0], [0]), ([], []), ([2], [2]), ([3], [3]), ([], []), ([5], [5]), ([6, 4], [6]), ([], []), ([8], [8]), ([9, 7], [9]), ([1, 4, 7, 10], [1, 4, 7, 10]), ([11, 10, 0, 1, 2, 3, 4, 5, 6, 7, 8, 9, 10, 11], [11])])
def impl_copyState.B1 : List Nat := [0, 1, 0, 4, 12, 0, 32, 124, 0, 256, 1020, 2047, 4095]
theorem impl_copyState.tab1 : rtab .any (opsOf Try.f68 1) = impl_copyState.T1 := by kernel_rfl
theorem impl_copyState.bits1 : waitsOk impl_copyState.T1.2 impl_copyState.B1 = true := by kernel_rfl
theorem impl_copyState.calls (a0_0 : Int) (A0_1 : Option Addr) (c0_1 : Nat) (l0_1 : List Int) (A0_2 : Option Addr) (c0_2 : Nat) (l0_2 : List Int) (A0_3 : Option Addr) (c0_3 : Nat) (l0_3 : List Int) (r1 : Int) (r2 : List Int) (r3 : List Int) (r4 : List Int) (w : World) (hr0_1 : Kd.C (Kd.int .i64) w A0_1 l0_1.length l0_1) (hc0_1 : l0_1.length ≤ c0_1) (hr0_2 : Kd.C (Kd.int .i64) w A0_2 l0_2.length l0_2) (hc0_2 : l0_2.length ≤ c0_2) (hr0_3 : Kd.C (Kd.int .i64) w A0_3 l0_3.length l0_3) (hc0_3 : l0_3.length ≤ c0_3) (h : impl_copyState.f a0_0 l0_1 l0_2 l0_3 = some (r1, r2, r3, r4)) :
  Calls Try.prog 68 #[.agg #[.int .i64 a0_0, .slice A0_1 l0_1.length c0_1, .slice A0_2 l0_2.length c0_2, .slice A0_3 l0_3.length c0_3]] w fun e w' => ∃ v1_ v2_ v3_ : Value, e = .returned (.agg #[.int .i64 r1, v1_, v2_, v3_]) ∧ Kd.R (Kd.int .i64) 3 w' w.heap.size (fun k_ => some k_ ≠ (v2_ : Value).ownBlock ∧ some k_ ≠ (v3_ : Value).ownBlock) v1_ r2 ∧ Kd.R (Kd.int .i64) 3 w' w.heap.size (fun k_ => some k_ ≠ (v1_ : Value).ownBlock ∧ some k_ ≠ (v3_ : Value).ownBlock) v2_ r3 ∧ Kd.R (Kd.int .i64) 3 w' w.heap.size (fun k_ => some k_ ≠ (v1_ : Value).ownBlock ∧ some k_ ≠ (v2_ : Value).ownBlock) v3_ r4 ∧ Below w.heap.size w w' := by
 have hu41 := Try.underlying41; have HR0_1 := ak hr0_1; have HC0_1 := ak hc0_1; clear hr0_1 hc0_1; have HR0_2 := ak hr0_2; have HC0_2 := ak hc0_2; clear hr0_2 hc0_2; have HR0_3 := ak hr0_3; have HC0_3 := ak hc0_3; clear hr0_3 hc0_3; have HB := ak (Below.refl w.heap.size w); have H := h; clear h; unfold impl_copyState.f at H; replace H := Option.bind_eq_some_iff.mp H; obtain ⟨t362, A20, H⟩ := H; (try dsimp only at H); have A2 := ak A20; clear A20; replace H := Option.bind_eq_some_iff.mp H; obtain ⟨t365, A30, H⟩ := H; (try dsimp only at H); have A3 := ak A30; clear A30; replace H := Option.bind_eq_some_iff.mp H; obtain ⟨t368, A40, H⟩ := H; (try dsimp only at H); have A4 := ak A40; clear A40; simp only [Option.some.injEq, Prod.mk.injEq] at H; obtain ⟨rfl, rfl, rfl, rfl⟩ := H; go_enter Try.func68, Try.ntmps68
 try go_wp2_with (first | ((with_reducible refine gate_dst (N := 1) rfl ?_); refine bx_ (N := 1) #[.int .i64 a0_0, .slice A0_1 l0_1.length c0_1, .slice A0_2 l0_2.length c0_2, .slice A0_3 l0_3.length c0_3] 41 ?_; intro gb360 hg w5 hbox hb; have BK360 := ak hbox; have GW360 := gy hg HB; have GE360 := gy hg HB; replace HB := bs HB hb; clear hb hbox hg) | ((with_reducible refine gate_dst (N := 2) rfl ?_); refine bx_ (N := 2) #[.int .i64 0, .slice none 0 0, .slice none 0 0, .slice none 0 0] 41 ?_; intro gb361 hg w6 hbox hb; have BK361 := ak hbox; have GW361 := gy hg HB; have GE361 := gy hg HB; replace HB := bs HB hb; have NB360_361 := gm hg BK360; have NB361_360 := gn hg BK360; replace BK360 := kf BK360 hb; clear hb hbox hg))
 replace BK360 := ak (blk_drew BK360.out); replace BK361 := ak (blk_drew BK361.out); replace HB := ak (below_drew1 HB.out); refine start_ (n := 13) (S := fun w' => w'.cell? ⟨gb360, 0, none⟩ = some (.int .i64 a0_0) ∧ w'.cell? ⟨gb360, 1, none⟩ = some (.slice A0_1 l0_1.length c0_1) ∧ w'.cell? ⟨gb360, 2, none⟩ = some (.slice A0_2 l0_2.length c0_2) ∧ w'.cell? ⟨gb360, 3, none⟩ = some (.slice A0_3 l0_3.length c0_3)) (ds := []) #[false, false, false, false, false, false, false, false, false, false, false, false, false] KR rfl rfl ⟨bq BK360 0, bq BK360 1, bq BK360 2, bq BK360 3⟩ (fun hHeld => ?_); refine with_tabW impl_copyState.tab1 impl_copyState.bits1 (fun HT_ HW_ => ?_)
 generalize w6.drew = w7 at BK360 BK361 HB hHeld ⊢
 refine pu_ (i := 0) (N := some 3) #[true, false, false, false, false, false, false, false, false, false, false, false, false] HT_ ?_; refine pu_ (i := 2) (N := some 5) #[true, false, true, false, false, false, false, false, false, false, false, false, false] HT_ ?_; refine pu_ (i := 5) (N := some 8) #[true, false, true, false, false, true, false, false, false, false, false, false, false] HT_ ?_; refine pu_ (i := 8) (N := some 11) #[true, false, true, false, false, true, false, false, true, false, false, false, false] HT_ ?_; refine tk_ (i := 1) (N := some 4) #[true, true, true, false, false, true, false, false, true, false, false, false, false] rfl rfl HT_ HW_ hHeld ?_; refine take_ (i := 3) (N := some 6) (v := ?_) (a' := ?_) #[true, true, true, true, false, true, false, false, true, false, false, false, false] rfl rfl (take_ofW HT_.out HW_.out KR) (fun _ _ _ h => h) (Or.inl ⟨by rfl, ?_⟩) hHeld ?_ ?_; rotate_left
 ·rintro w' ⟨s0, s1, s2, s3⟩
  go_simp
  with_reducible rfl
 rotate_left
 ·simp only [Act.put, List.setIfInBounds_toArray, List.set_cons_zero, List.set_cons_succ, i64_w, i32_w]
  rfl
 refine tk_ (i := 6) (N := some 9) #[true, true, true, true, false, true, true, false, true, false, false, false, false] rfl rfl HT_ HW_ hHeld ?_; refine take_ (i := 9) (N := some 12) (v := ?_) (a' := ?_) #[true, true, true, true, false, true, true, false, true, true, false, false, false] rfl rfl (take_ofW HT_.out HW_.out KR) (fun _ _ _ h => h) (Or.inl ⟨by rfl, ?_⟩) hHeld ?_ ?_; rotate_left
 ·rintro w' ⟨s0, s1, s2, s3⟩
  go_simp
  with_reducible rfl
 rotate_left
 ·simp only [Act.put, List.setIfInBounds_toArray, List.set_cons_zero, List.set_cons_succ, i64_w, i32_w]
  rfl
 refine one_ (i := 4) (N := some 7) #[true, true, true, true, true, true, true, false, true, true, false, false, false] rfl rfl (one_of HT_.out KR) (by decide) (fun K hK => ?_); refine goes_ Try.func127 KR rfl #[.slice A0_1 l0_1.length c0_1] (by rfl) rfl rfl AR ?_
 with_reducible refine (slices_Clone_int_int.calls _ _ l0_1 t362 _ ?side1 ?side2 A2.out).mono ?_
 (case side1 => exact CR (Kd.C_below HR0_1.out HB.out)); (case side2 => exact HC0_1.out); rintro e w8 ⟨v363, rfl, ho0, hb⟩; refine ⟨_, rfl, ?_⟩; have HO364 := Rn0 ho0 HB; replace BK360 := kf BK360 hb; replace BK361 := kf BK361 hb; replace HB := bs HB hb; (try clear hb); (try clear hb2); (try clear hk); (try clear hi); (try clear ho0); obtain ⟨Ao363_, co363_, eo363_⟩ := Kd.R_slice HO364.out; subst eo363_; refine hK.out _ _ ⟨bq BK360 0, bq BK360 1, bq BK360 2, bq BK360 3⟩ (fun hHeld => ?_); clear hK K; refine norm_ (a' := ?_) ?_ ?_; rotate_left
 ·show Act.put _ (some 7) _ = _
  simp only [Act.put, List.setIfInBounds_toArray, List.set_cons_zero, List.set_cons_succ, i64_w, i32_w]
  rfl
 refine one_ (i := 7) (N := some 10) #[true, true, true, true, true, true, true, true, true, true, false, false, false] rfl rfl (one_of HT_.out KR) (by decide) (fun K hK => ?_); refine goes_ Try.func127 KR rfl #[.slice A0_2 l0_2.length c0_2] (by rfl) rfl rfl AR ?_
 with_reducible refine (slices_Clone_int_int.calls _ _ l0_2 t365 _ ?side1 ?side2 A3.out).mono ?_
 (case side1 => exact CR (Kd.C_below HR0_2.out HB.out)); (case side2 => exact HC0_2.out); rintro e w9 ⟨v366, rfl, ho0, hb⟩; refine ⟨_, rfl, ?_⟩; have HO367 := Rn1 ho0 HB HO364; replace HO364 := ak (Kd.R_elder' (PR HO364) (Kd.R_base ho0) hb); replace BK360 := kf BK360 hb; replace BK361 := kf BK361 hb; replace HB := bs HB hb; (try clear hb); (try clear hb2); (try clear hk); (try clear hi); (try clear ho0); refine hK.out _ _ ⟨bq BK360 0, bq BK360 1, bq BK360 2, bq BK360 3⟩ (fun hHeld => ?_); clear hK K; refine norm_ (a' := ?_) ?_ ?_; rotate_left
 ·show Act.put _ (some 10) _ = _
  simp only [Act.put, List.setIfInBounds_toArray, List.set_cons_zero, List.set_cons_succ, i64_w, i32_w]
  rfl
 refine one_ (i := 10) (N := some 13) #[true, true, true, true, true, true, true, true, true, true, true, false, false] rfl rfl (one_of HT_.out KR) (by decide) (fun K hK => ?_); refine goes_ Try.func127 KR rfl #[.slice A0_3 l0_3.length c0_3] (by rfl) rfl rfl AR ?_
 with_reducible refine (slices_Clone_int_int.calls _ _ l0_3 t368 _ ?side1 ?side2 A4.out).mono ?_
 (case side1 => exact CR (Kd.C_below HR0_3.out HB.out)); (case side2 => exact HC0_3.out); rintro e w10 ⟨v369, rfl, ho0, hb⟩; refine ⟨_, rfl, ?_⟩; have HO370 := Rn2 ho0 HB HO364 HO367; replace HO364 := ak (Kd.R_elder' (PR HO364) (Kd.R_base ho0) hb); replace HO367 := ak (Kd.R_elder' (PR HO367) (Kd.R_base ho0) hb); replace BK360 := kf BK360 hb; replace BK361 := kf BK361 hb; replace HB := bs HB hb; (try clear hb); (try clear hb2); (try clear hk); (try clear hi); (try clear ho0); obtain ⟨Ao11, co11, eo11⟩ := Kd.R_slice HO370.out; (first | subst eo11 | (injection eo11 with f1_ f2_ f3_; have f4_ := f1_.symm; have f5_ := f3_.symm; clear f1_ f2_ f3_; subst f4_; subst f5_)); obtain ⟨Ao12, co12, eo12⟩ := Kd.R_slice HO367.out; (first | subst eo12 | (injection eo12 with f1_ f2_ f3_; have f4_ := f1_.symm; have f5_ := f3_.symm; clear f1_ f2_ f3_; subst f4_; subst f5_)); obtain ⟨Ao13, co13, eo13⟩ := Kd.R_slice HO364.out; (first | subst eo13 | (injection eo13 with f1_ f2_ f3_; have f4_ := f1_.symm; have f5_ := f3_.symm; clear f1_ f2_ f3_; subst f4_; subst f5_)); refine hK.out _ _ ⟨bq BK360 0, bq BK360 1, bq BK360 2, bq BK360 3⟩ (fun hHeld => ?_); clear hK K; refine norm_ (a' := ?_) ?_ ?_; rotate_left
 ·show Act.put _ (some 13) _ = _
  simp only [Act.put, List.setIfInBounds_toArray, List.set_cons_zero, List.set_cons_succ, i64_w, i32_w]
  rfl
 refine pu_ (i := 11) (N := some 14) #[true, true, true, true, true, true, true, true, true, true, true, true, false] HT_ ?_; refine one_ (i := 12) (N := none) #[true, true, true, true, true, true, true, true, true, true, true, true, true] rfl rfl (one_of HT_.out KR) (by decide) (fun K hK => ?_); have hs14 : w10.cell? ⟨gb361, 0, none⟩ = some (.int .i64 0) := bq BK361 0; have hfs14 := blk_frozen BK361.out 0; have hns14_0 := NB360_361.out; have hms14_0 := NB361_360.out; have hs15 : w10.cell? ⟨gb361, 1, none⟩ = some (.slice none 0 0) := bq BK361 1; have hfs15 := blk_frozen BK361.out 1; have hns15_0 := NB360_361.out; have hms15_0 := NB361_360.out; have hs16 : w10.cell? ⟨gb361, 2, none⟩ = some (.slice none 0 0) := bq BK361 2; have hfs16 := blk_frozen BK361.out 2; have hns16_0 := NB360_361.out; have hms16_0 := NB361_360.out; have hs17 : w10.cell? ⟨gb361, 3, none⟩ = some (.slice none 0 0) := bq BK361 3; have hfs17 := blk_frozen BK361.out 3; have hns17_0 := NB360_361.out; have hms17_0 := NB361_360.out; refine skip_ (w1 := ?_) (by rfl) rfl ?_ ?_; rotate_left
 ·go_simp
  rfl
 refine hK.out _ _ ⟨((cell_far (p := ⟨gb361, _, none⟩) NB360_361.out _).trans (((cell_far (p := ⟨gb361, _, none⟩) NB360_361.out _).trans (((cell_far (p := ⟨gb361, _, none⟩) NB360_361.out _).trans (((cell_far (p := ⟨gb361, _, none⟩) NB360_361.out _).trans (hHeld.1)))))))), ((cell_far (p := ⟨gb361, _, none⟩) NB360_361.out _).trans (((cell_far (p := ⟨gb361, _, none⟩) NB360_361.out _).trans (((cell_far (p := ⟨gb361, _, none⟩) NB360_361.out _).trans (((cell_far (p := ⟨gb361, _, none⟩) NB360_361.out _).trans (hHeld.2.1)))))))), ((cell_far (p := ⟨gb361, _, none⟩) NB360_361.out _).trans (((cell_far (p := ⟨gb361, _, none⟩) NB360_361.out _).trans (((cell_far (p := ⟨gb361, _, none⟩) NB360_361.out _).trans (((cell_far (p := ⟨gb361, _, none⟩) NB360_361.out _).trans (hHeld.2.2.1)))))))), ((cell_far (p := ⟨gb361, _, none⟩) NB360_361.out _).trans (((cell_far (p := ⟨gb361, _, none⟩) NB360_361.out _).trans (((cell_far (p := ⟨gb361, _, none⟩) NB360_361.out _).trans (((cell_far (p := ⟨gb361, _, none⟩) NB360_361.out _).trans (hHeld.2.2.2))))))))⟩ (fun hHeld => ?_); clear hK K; refine done_ (done_of HT_.out KR) ?_
 try go_wp2
 refine bodyPost_ret (results_cell_row rfl _ _ gb361 41 #[.int .i64 a0_0, .slice Ao13 t362.length co13, .slice Ao12 t365.length co12, .slice Ao11 t368.length co11] (0, 0) _ rfl (PX BK361) Try.underlying41 rfl KR) rfl ?_; exact ⟨_, _, _, RT, RX (Rt HO364.out BK361) (fun _ hk => by first | exact ⟨hk.1.1.2, hk.1.2⟩ | simp_all), RX (Rt HO367.out BK361) (fun _ hk => by first | exact ⟨hk.1.1.2, hk.1.2⟩ | simp_all), RX (Rt HO370.out BK361) (fun _ hk => by first | exact ⟨hk.1.1.2, hk.1.2⟩ | simp_all), PB⟩

end Go.Proofs.Ytmhonflpbokkeaa.MFnExactTraceReplay
