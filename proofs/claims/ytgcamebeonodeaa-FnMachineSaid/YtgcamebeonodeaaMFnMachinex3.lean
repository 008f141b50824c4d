-- Written by a program of this session out of the translation's own print. Not trusted: Lean checks it.
import Derived.Test.YtgcamebeonodeaaShr2
import Derived.Test.YtgcamebeonodeaaMFnMachinex0
import Derived.Test.YtgcamebeonodeaaMFnMachinex1
import Derived.Test.YtgcamebeonodeaaMFnMachinex2
namespace Go.Proofs.Ytgcamebeonodeaa.MFnMachine
open Go.RowKit Go.Proofs.YtgcamebeonodeaaW.PrintWords Go.Proofs.YtgcamebeonodeaaW.PrintLast Go.Proofs.YtgcamebeonodeaaW.PrintMore
attribute [local go_sem] max2_int min2_int max_two min_two max_three min_three max_four min_four   -- for this text's walks alone
set_option linter.unusedVariables false
set_option linter.unusedSimpArgs false

abbrev b3_0 : Array Bool := #[true, true, true, true, true, true, true]
abbrev b3_1 : Array Bool := #[true, true, true, true, true, true, false]
abbrev b3_2 : Array Bool := #[true, true, true, true, true, false, false]
abbrev b3_3 : Array Bool := #[true, true, true, true, false, false, false]
abbrev b3_4 : Array Bool := #[true, false, true, true, false, false, false]
abbrev b3_5 : Array Bool := #[true, false, true, false, false, false, false]
abbrev b3_6 : Array Bool := #[true, false, false, false, false, false, false]
abbrev b3_7 : Array Bool := #[false, false, false, false, false, false, false]
/-! ### spec_l11Draw: function 158 -/
mutual
def spec_l11Draw.l0 : Nat → Int → List Int → Int → Int → Int → List Int → List Int → List Int → Option (Int × List Int × List Int × List Int × Int × Int)
  | 0, _, _, _, _, _, _, _, _ => none
  | k + 1, x6, x1000, x1001, x1002, x244000, x244001, x244002, x244003 => if x6 < (x244001.length : Int) then ((spec_l1Below.f x1000 x1001 x1002 9).bind fun bt247 => (if 0 ≤ x6 then (spec_l11Draw.l0 k (wrap64 (x6 + 1)) x1000 bt247.2.1 bt247.2.2 x244000 (x244001.set (x6 : Int).toNat bt247.1) x244002 x244003) else (none))) else (spec_l11Draw.l1 k 0 x1000 x1001 x1002 x244000 x244001 x244002 x244003)
def spec_l11Draw.l1 : Nat → Int → List Int → Int → Int → Int → List Int → List Int → List Int → Option (Int × List Int × List Int × List Int × Int × Int)
  | 0, _, _, _, _, _, _, _, _ => none
  | k + 1, x7, x1000, x1001, x1002, x244000, x244001, x244002, x244003 => if x7 < (x244002.length : Int) then ((spec_l1Below.f x1000 x1001 x1002 9).bind fun bt251 => (if 0 ≤ x7 then (spec_l11Draw.l1 k (wrap64 (x7 + 1)) x1000 bt251.2.1 bt251.2.2 x244000 x244001 (x244002.set (x7 : Int).toNat bt251.1) x244003) else (none))) else (spec_l11Draw.l2 k 0 x1000 x1001 x1002 x244000 x244001 x244002 x244003)
def spec_l11Draw.l2 : Nat → Int → List Int → Int → Int → Int → List Int → List Int → List Int → Option (Int × List Int × List Int × List Int × Int × Int)
  | 0, _, _, _, _, _, _, _, _ => none
  | k + 1, x8, x1000, x1001, x1002, x244000, x244001, x244002, x244003 => if x8 < (x244003.length : Int) then ((spec_l1Below.f x1000 x1001 x1002 9).bind fun bt255 => (if 0 ≤ x8 then (spec_l11Draw.l2 k (wrap64 (x8 + 1)) x1000 bt255.2.1 bt255.2.2 x244000 x244001 x244002 (x244003.set (x8 : Int).toNat bt255.1)) else (none))) else (some (x244000, x244001, x244002, x244003, x1001, x1002))
end
def spec_l11Draw.f (k : Nat) (s0_0 : List Int) (s0_1 : Int) (s0_2 : Int) (a1 : Int) : Option (Int × List Int × List Int × List Int × Int × Int) := (spec_StartState.f k).bind fun bt233 => ((spec_l1Below.f s0_0 s0_1 s0_2 (wrap64 (a1 + 2))).bind fun bt244 => (spec_l11Draw.l0 k 0 s0_0 bt244.2.1 bt244.2.2 bt244.1 bt233.2.1 bt233.2.2.1 bt233.2.2.2))
set_option maxHeartbeats 8000000 in
set_option maxRecDepth 100000 in
theorem spec_l11Draw.calls (k : Nat) (g : Nat) (s0_0 : List Int) (s0_1 : Int) (s0_2 : Int) (a1 : Int) (r1 : Int) (r2 : List Int) (r3 : List Int) (r4 : List Int) (r5 : Int) (r6 : Int) (w0 w : World) (hI : IsS158 w0 w g s0_0 s0_1 s0_2) (hB : Below w0.heap.size w0 w) (h : spec_l11Draw.f k s0_0 s0_1 s0_2 a1 = some (r1, r2, r3, r4, r5, r6)) :
  Calls Try.prog 158 #[.pointer (some ⟨g, 0, none⟩), .int .i64 a1] w fun e w' => ∃ v1_ v2_ v3_ : Value, e = .returned (.agg #[.int .i64 r1, v1_, v2_, v3_]) ∧ Kd.R (Kd.int .i64) 3 w' w.heap.size (fun k_ => some k_ ≠ (v2_ : Value).ownBlock ∧ some k_ ≠ (v3_ : Value).ownBlock) v1_ r2 ∧ Kd.R (Kd.int .i64) 3 w' w.heap.size (fun k_ => some k_ ≠ (v1_ : Value).ownBlock ∧ some k_ ≠ (v3_ : Value).ownBlock) v2_ r3 ∧ Kd.R (Kd.int .i64) 3 w' w.heap.size (fun k_ => some k_ ≠ (v1_ : Value).ownBlock ∧ some k_ ≠ (v2_ : Value).ownBlock) v3_ r4 ∧ IsS158 w0 w' g s0_0 r5 r6 ∧ Below w0.heap.size w0 w' ∧ KeepBut w w' g none := by
 have hu45 := Try.underlying45
 have HI0 := Aside0.mk hI
 have HK := ak (KeepBut.refl w g none)
 have HL := Aside0.mk hB.size
 clear hI
 have HW0 := Aside0.mk hB.size
 have HB := Aside0.mk hB
 clear hB
 have H : ((spec_StartState.f k).bind fun bt233 => ((spec_l1Below.f s0_0 s0_1 s0_2 (wrap64 (a1 + 2))).bind fun bt244 => (spec_l11Draw.l0 k 0 s0_0 bt244.2.1 bt244.2.2 bt244.1 bt233.2.1 bt233.2.2.1 bt233.2.2.2))) = some (r1, r2, r3, r4, r5, r6) := h
 clear h
 replace H := Option.bind_eq_some_iff.mp H
 obtain ⟨⟨t233, t234, t237, t240⟩, A30, H⟩ := H
 replace H : ((spec_l1Below.f s0_0 s0_1 s0_2 (wrap64 (a1 + 2))).bind fun bt244 => (spec_l11Draw.l0 k 0 s0_0 bt244.2.1 bt244.2.2 bt244.1 t234 t237 t240)) = some (r1, r2, r3, r4, r5, r6) := H
 have A3 := Aside0.mk A30
 clear A30
 replace H := Option.bind_eq_some_iff.mp H
 obtain ⟨⟨t244, t245, t246⟩, A40, H⟩ := H
 replace H : (spec_l11Draw.l0 k 0 s0_0 t245 t246 t244 t234 t237 t240) = some (r1, r2, r3, r4, r5, r6) := H
 have A4 := Aside0.mk A40
 clear A40
 have H' := Aside0.mk H
 clear H
 go_enter Try.func158, Try.ntmps158
 go_wp2_with (first | ((with_reducible refine gate_dst (N := 4) rfl ?_); refine bx_ (N := 4) #[.int .i64 0, .slice none 0 0, .slice none 0 0, .slice none 0 0] 45 ?_; intro gb232 hg w5 hbox hb; replace HB := bs HB hb; have BK232 := ak hbox; have GW232 := ak (kz hg HK); have GE232 := ak (Nat.le_trans HW0.out (kz hg HK)); replace HK := ak (KeepBut.trans PH (KeepBut.of_below hb g none) (.inl rfl)); have NB0_232 := ak (nh hg (IsS158.lt (show IsS158 w0 _ g s0_0 s0_1 s0_2 from PI))); have NB232_0 := ak (ng hg (IsS158.lt (show IsS158 w0 _ g s0_0 s0_1 s0_2 from PI))); replace HI0 := ak (IsS158.below PI hb); clear hb hbox hg) | ((with_reducible refine gate_callee (f := 167) rfl ?_); refine goesL_ (some 9) rfl rfl Try.func167 KR rfl #[] rfl AR ?_; (with_reducible refine (spec_StartState.calls k  t233 t234 t237 t240 _ A3.out).mono ?_); rintro e w6 ⟨v235, v238, v241, rfl, ho0, ho1, ho2, hb⟩; refine ⟨_, rfl, ?_⟩; have HO236 := ak (Kd.R_lower ho0 (keep_size (w := w) (g := g) (row := none) PH)); have HO239 := ak (Kd.R_lower ho1 (keep_size (w := w) (g := g) (row := none) PH)); have HO242 := ak (Kd.R_lower ho2 (keep_size (w := w) (g := g) (row := none) PH)); replace HI0 := ak (IsS158.below PI hb); replace BK232 := kf BK232 hb; replace HK := ak (KeepBut.trans PH (KeepBut.of_below hb g none) (.inl rfl)); replace HB := bs HB hb; (try clear hb); (try clear hb2); (try clear hk); (try clear hi); (try clear ho0); (try clear ho1); (try clear ho2)) | ((with_reducible refine gate_dst (N := 5) rfl ?_); refine bx_ (N := 5) #[.int .i64 0, .slice none 0 0, .slice none 0 0, .slice none 0 0] 45 ?_; intro gb243 hg w7 hbox hb; replace HO236 := Rb HO236 hb; replace HO239 := Rb HO239 hb; replace HO242 := Rb HO242 hb; replace HB := bs HB hb; have BK243 := ak hbox; have GW243 := ak (kz hg HK); have GE243 := ak (Nat.le_trans HW0.out (kz hg HK)); replace HK := ak (KeepBut.trans PH (KeepBut.of_below hb g none) (.inl rfl)); have NB232_243 := gm hg BK232; have NB243_232 := gn hg BK232; replace BK232 := kf BK232 hb; have NB0_243 := ak (nh hg (IsS158.lt (show IsS158 w0 _ g s0_0 s0_1 s0_2 from PI))); have NB243_0 := ak (ng hg (IsS158.lt (show IsS158 w0 _ g s0_0 s0_1 s0_2 from PI))); replace HI0 := ak (IsS158.below PI hb); clear hb hbox hg; have hnb8 := NB243_232.out; have hnc8 := NB232_243.out; have hnb9 := NB243_0.out; have hnc9 := NB0_243.out; obtain ⟨hcz10_0, hcz10_1, hcz10_2, hcz10_3, hfz10_0, hfz10_1, hfz10_2, hfz10_3⟩ := bc4 BK243; obtain ⟨Ao11, co11, eo11⟩ := Kd.R_slice HO236.out; subst eo11; obtain ⟨Ao12, co12, eo12⟩ := Kd.R_slice HO239.out; subst eo12; obtain ⟨Ao13, co13, eo13⟩ := Kd.R_slice HO242.out; subst eo13) | ((with_reducible refine gate_callee (f := 68) rfl ?_); refine goesL_ (some 13) rfl rfl Try.func68 KR rfl #[.pointer (some ⟨g, 0, none⟩), .int .i64 (wrap64 (a1 + 2))] rfl AR ?_; (with_reducible refine (spec_l1Below.calls g s0_0 s0_1 s0_2 (wrap64 (a1 + 2)) t244 t245 t246 w0 _ ?side1 ?side2 A4.out).mono ?_); (case side1 => exact PI); (case side2 => exact PL); rintro e w14 ⟨rfl, hi, hb, hk⟩; refine ⟨_, rfl, ?_⟩; replace BK232 := kq hk BK232 NB232_0; replace HO236 := Rk (IsS158.apart (show IsS158 w0 _ g s0_0 s0_1 s0_2 from PI) (Re1 HO236 BK243) (by decide)) hk; replace HO239 := Rk (IsS158.apart (show IsS158 w0 _ g s0_0 s0_1 s0_2 from PI) (Re1 HO239 BK243) (by decide)) hk; replace HO242 := Rk (IsS158.apart (show IsS158 w0 _ g s0_0 s0_1 s0_2 from PI) (Re1 HO242 BK243) (by decide)) hk; replace BK243 := kr (cs' := #[.int .i64 t233, .slice Ao11 t234.length co11, .slice Ao12 t237.length co12, .slice Ao13 t240.length co13]) hk BK243 NB243_0; replace HK := kt HK hk; replace HB := ak hb; replace HI0 := ak (hi); (try clear hb); (try clear hb2); (try clear hk); (try clear hi); obtain ⟨hcz15_0, hcz15_1, hcz15_2, hcz15_3, hfz15_0, hfz15_1, hfz15_2, hfz15_3⟩ := bc4 BK243))
 go_loopg [6] k (fun kq v6 w' => ∃ (x6_1 : Int) (x1001_1 : Int) (x1002_1 : Int) (x244001_1 : List Int) (x244002_1 : List Int) (x244003_1 : List Int) (u244001 : Value) (u244002 : Value) (u244003 : Value), v6 = .int .i64 x6_1 ∧ Aside0 (spec_l11Draw.l0 kq x6_1 s0_0 x1001_1 x1002_1 t244 x244001_1 x244002_1 x244003_1 = some (r1, r2, r3, r4, r5, r6)) ∧ Aside0 (kq ≤ k) ∧ Aside0 (Kd.R (Kd.int .i64) 3 w' w.heap.size (fun k_ => some k_ ≠ (u244002 : Value).ownBlock ∧ some k_ ≠ (u244003 : Value).ownBlock) u244001 x244001_1) ∧ Aside0 (Kd.R (Kd.int .i64) 3 w' w.heap.size (fun k_ => some k_ ≠ (u244001 : Value).ownBlock ∧ some k_ ≠ (u244003 : Value).ownBlock) u244002 x244002_1) ∧ Aside0 (Kd.R (Kd.int .i64) 3 w' w.heap.size (fun k_ => some k_ ≠ (u244001 : Value).ownBlock ∧ some k_ ≠ (u244002 : Value).ownBlock) u244003 x244003_1) ∧ Aside0 (w'.heap[gb232]? = some (.cells #[.int .i64 0, (.slice none 0 0), (.slice none 0 0), (.slice none 0 0)] 45 (0, 0))) ∧ Aside0 (w'.heap[gb243]? = some (.cells #[.int .i64 t244, u244001, u244002, u244003] 45 (0, 0))) ∧ Aside0 (IsS158 w0 w' g s0_0 x1001_1 x1002_1) ∧ Aside0 (KeepBut w w' g none) ∧ Aside0 (Below w0.heap.size w0 w'))
 case atStart => exact ⟨(0), (t245), (t246), (t234), (t237), (t240), (.slice Ao11 t234.length co11), (.slice Ao12 t237.length co12), (.slice Ao13 t240.length co13), (by first | rfl | (simp; done) | (simp [*]; done)), H', ⟨Nat.le_refl _⟩, ⟨Re1 HO236 BK243⟩, ⟨Re1 HO239 BK243⟩, ⟨Re1 HO242 BK243⟩, ⟨PF BK232⟩, ⟨PX BK243⟩, ⟨PI⟩, ⟨PH⟩, ⟨PL⟩⟩
 case round =>
  clear H'
  (try clear c1); (try clear p2); (try clear c6); (try clear p6); (try clear c8); (try clear c9); (try clear c15); (try clear hcz10_0); (try clear hcz10_1); (try clear hcz10_2); (try clear hcz10_3); (try clear hcz15_0); (try clear hcz15_1); (try clear hcz15_2); (try clear hcz15_3); (try clear hfz10_0); (try clear hfz10_1); (try clear hfz10_2); (try clear hfz10_3); (try clear hfz15_0); (try clear hfz15_1); (try clear hfz15_2); (try clear hfz15_3)
  obtain ⟨x6_1, x1001_1, x1002_1, x244001_1, x244002_1, x244003_1, u244001, u244002, u244003, rfl, HA, HK1, HO_244001, HO_244002, HO_244003, BK232, BK243, HI0, HK, HB⟩ := hrel
  cases gk with
  | zero => exact absurd HA.out (by simp [spec_l11Draw.l0])
  | succ k1 =>
   have H := HA.out
   clear HA
   simp only [spec_l11Draw.l0] at H
   by_cases c16 : x6_1 < (x244001_1.length : Int)
   ·rw [if_pos c16] at H
    have c16b0 : decide (x6_1 < (x244001_1.length : Int)) = true := decide_eq_true c16
    clear c16
    replace H := Option.bind_eq_some_iff.mp H
    obtain ⟨⟨t247, t248, t249⟩, A170, H⟩ := H
    replace H : (if 0 ≤ x6_1 then (spec_l11Draw.l0 k1 (wrap64 (x6_1 + 1)) s0_0 t248 t249 t244 (x244001_1.set (x6_1 : Int).toNat t247) x244002_1 x244003_1) else (none)) = some (r1, r2, r3, r4, r5, r6) := H
    have A17 := Aside0.mk A170
    clear A170
    by_cases c18 : 0 ≤ x6_1
    ·rw [if_pos c18] at H
     have c18b0 : decide (0 ≤ x6_1) = true := decide_eq_true c18
     clear c18
     obtain ⟨y250, hy250⟩ : ∃ y_ : List Int, y_ = (x244001_1.set (x6_1 : Int).toNat t247) := ⟨_, rfl⟩
     replace H : (spec_l11Draw.l0 k1 (wrap64 (x6_1 + 1)) s0_0 t248 t249 t244 y250 x244002_1 x244003_1) = some (r1, r2, r3, r4, r5, r6) := by first | (rw [hy250]; with_reducible exact H) | (have H2_ := (Option.bind_some _ _).symm.trans H; rw [hy250]; with_reducible exact H2_) | (have H2_ := (Option.bind_some _ _).symm.trans H; with_reducible exact H2_) | with_reducible exact H | (rw [hy250]; exact H) | exact H
     have Ny250 := Aside0.mk hy250
     clear hy250
     have H' := Aside0.mk H
     clear H
     have hnb20 := NB243_232.out
     have hnc20 := NB232_243.out
     have hnb21 := NB243_0.out
     have hnc21 := NB0_243.out
     obtain ⟨hcz22_0, hcz22_1, hcz22_2, hcz22_3, hfz22_0, hfz22_1, hfz22_2, hfz22_3⟩ := bc4 BK243
     obtain ⟨Ao23, co23, eo23⟩ := Kd.R_slice HO_244001.out
     subst eo23
     try go_wp2
     replace HO_244001 := ak (Kd.R_drew HO_244001.out)
     replace HO_244002 := ak (Kd.R_drew HO_244002.out)
     replace HO_244003 := ak (Kd.R_drew HO_244003.out)
     replace BK232 := ak (blk_drew BK232.out)
     replace BK243 := ak (blk_drew BK243.out)
     replace HI0 := ak (IsS158.drew HI0.out)
     replace HK := ak (keep_drew HK.out)
     replace HB := ak (below_drew1 HB.out)
     refine start_ (n := 7) (S := fun w' => w'.cell? ⟨gb243, 0, none⟩ = some (.int .i64 t244) ∧ w'.cell? ⟨gb243, 1, none⟩ = some (.slice Ao23 x244001_1.length co23) ∧ w'.cell? ⟨gb243, 2, none⟩ = some (u244002) ∧ w'.cell? ⟨gb243, 3, none⟩ = some (u244003)) (ds := [6]) b3_7 KR rfl rfl ⟨(blk_cell BK243.out 0).trans rfl, (blk_cell BK243.out 1).trans rfl, (blk_cell BK243.out 2).trans rfl, (blk_cell BK243.out 3).trans rfl⟩ (fun hHeld => ?_)
     generalize wr.drew = w24 at HO_244001 HO_244002 HO_244003 BK232 BK243 HI0 HK HB hHeld ⊢
     refine pure_ (i := 0) (N := some 22) (v := ?_) (a' := ?_) b3_6 rfl rfl KR (fun _ _ _ h => h) (Or.inl ⟨by rfl, ?_⟩) ?_ ?_
     rotate_left
     ·intro w'
      go_simp
      with_reducible rfl
     rotate_left
     ·simp only [Act.put, List.setIfInBounds_toArray, List.set_cons_zero, List.set_cons_succ, i64_w, i32_w]
      rfl
     refine pure_ (i := 2) (N := some 24) (v := ?_) (a' := ?_) b3_5 rfl rfl KR (fun _ _ _ h => h) (Or.inl ⟨by rfl, ?_⟩) ?_ ?_
     rotate_left
     ·intro w'
      go_simp
      with_reducible rfl
     rotate_left
     ·simp only [Act.put, List.setIfInBounds_toArray, List.set_cons_zero, List.set_cons_succ, i64_w, i32_w]
      rfl
     refine pure_ (i := 3) (N := some 25) (v := ?_) (a' := ?_) b3_4 rfl rfl KR (fun _ _ _ h => h) (Or.inl ⟨by rfl, ?_⟩) ?_ ?_
     rotate_left
     ·intro w'
      go_simp
      with_reducible rfl
     rotate_left
     ·simp only [Act.put, List.setIfInBounds_toArray, List.set_cons_zero, List.set_cons_succ, i64_w, i32_w]
      rfl
     refine take_ (i := 1) (N := some 23) (v := ?_) (a' := ?_) b3_3 rfl rfl KR (fun _ _ _ h => h) (Or.inl ⟨by rfl, ?_⟩) hHeld ?_ ?_
     rotate_left
     ·rintro w' ⟨s0, s1, s2, s3⟩
      go_simp
      with_reducible rfl
     rotate_left
     ·simp only [Act.put, List.setIfInBounds_toArray, List.set_cons_zero, List.set_cons_succ, i64_w, i32_w]
      rfl
     refine one_ (i := 4) (N := some 26) b3_2 rfl rfl KR (by decide) (fun K hK => ?_)
     refine goes_ Try.func68 KR rfl #[.pointer (some ⟨g, 0, none⟩), .int .i64 9] (by rfl) rfl rfl AR ?_
     with_reducible refine (spec_l1Below.calls g s0_0 x1001_1 x1002_1 9 t247 t248 t249 w0 _ ?side1 ?side2 A17.out).mono ?_
     (case side1 => exact PI)
     (case side2 => exact PL)
     rintro e w25 ⟨rfl, hi, hb, hk⟩
     refine ⟨_, rfl, ?_⟩
     replace HO_244001 := Rk (IsS158.apart (show IsS158 w0 _ g s0_0 x1001_1 x1002_1 from PI) (PR HO_244001) (by decide)) hk
     replace HO_244002 := Rk (IsS158.apart (show IsS158 w0 _ g s0_0 x1001_1 x1002_1 from PI) (PR HO_244002) (by decide)) hk
     replace HO_244003 := Rk (IsS158.apart (show IsS158 w0 _ g s0_0 x1001_1 x1002_1 from PI) (PR HO_244003) (by decide)) hk
     replace BK232 := kq hk BK232 NB232_0
     replace BK243 := kq hk BK243 NB243_0
     replace HK := kt HK hk
     replace HB := ak hb
     replace HI0 := ak (hi)
     (try clear hb)
     (try clear hb2)
     (try clear hk)
     (try clear hi)
     have p19 : 0 ≤ (x6_1 : Int) := of_decide_eq_true (by first | (with_reducible assumption) | assumption)
     have q19 : (x6_1 : Int) < ((x244001_1.length : Int) : Int) := of_decide_eq_true (by first | (with_reducible assumption) | assumption)
     obtain ⟨go19, co19, eo19, gb19, gl19, cl19, HG19⟩ := Kd.R_form HO_244001.out (by omega)
     (first | cases eo19 | (injection eo19 with ea_ en_ ec_; (first | subst ea_ | (injection ea_ with ea_; subst ea_)); subst ec_; clear en_))
     have GB19 := Aside0.mk gb19
     have GG19 := Aside0.mk HG19
     clear gb19 gl19 HG19
     obtain ⟨hx19_0, hf19_0⟩ := Kd.R_celln 0 HO_244001.out (x6_1 : Int) p19 q19
     replace p19 := eq_true p19
     replace q19 := eq_true q19
     have HN0_go19 := ak (show g ≠ go19 from by have h_ := IsS158.own_ne HI0.out HO_244001.out (by decide); intro e_; exact h_ (by rw [e_]; rfl))
     have HP26 := Kd.R_putn HO_244001.out (x6_1 : Int) t247
     rw [← Ny250.out] at HP26
     have HQ26 := Aside0.mk HP26
     clear HP26
     refine hK.out _ _ ⟨(blk_cell BK243.out 0).trans rfl, (blk_cell BK243.out 1).trans rfl, (blk_cell BK243.out 2).trans rfl, (blk_cell BK243.out 3).trans rfl⟩ (fun hHeld => ?_)
     clear hK K
     refine norm_ (a' := ?_) ?_ ?_
     rotate_left
     ·show Act.put _ (some 26) _ = _
      simp only [Act.put, List.setIfInBounds_toArray, List.set_cons_zero, List.set_cons_succ, i64_w, i32_w]
      rfl
     refine pure_ (i := 5) (N := some 27) (v := ?_) (a' := ?_) b3_1 rfl rfl KR (fun _ _ _ h => h) (Or.inl ⟨by rfl, ?_⟩) ?_ ?_
     rotate_left
     ·intro w'
      go_simp
      with_reducible rfl
     rotate_left
     ·simp only [Act.put, List.setIfInBounds_toArray, List.set_cons_zero, List.set_cons_succ, i64_w, i32_w]
      rfl
     refine last_ (i := 6) (N := none) b3_0 rfl rfl KR (by decide) (fun K hK => ?_)
     refine skip_ (w1 := ?_) (by rfl) rfl ?_ ?_
     rotate_left
     ·go_simp
      rfl
     refine hK.out _ _ ?_
     clear hK K
     refine done_ KR ?_
     try go_wp2
     go_roundg k1
     case measure => have := HK1.out; omega
     case rel => exact ⟨(wrap64 (x6_1 + 1)), (t248), (t249), (y250), (x244002_1), (x244003_1), (.slice (some ⟨go19, 0, none⟩) x244001_1.length co23), (u244002), (u244003), (by first | rfl | (simp; done) | (simp [*]; done)), H', ⟨by have := HK1.out; omega⟩, ⟨PR HQ26⟩, ⟨RX (Kd.R_mono HO_244002.out (fun k_ hk => (⟨hk, fun e_ => hk.1 (by rw [e_]; rfl)⟩ : _ ∧ k_ ≠ go19))) (fun _ hk => by first | exact ⟨hk.1.1, hk.1.2⟩ | simp_all)⟩, ⟨RX (Kd.R_mono HO_244003.out (fun k_ hk => (⟨hk, fun e_ => hk.1 (by rw [e_]; rfl)⟩ : _ ∧ k_ ≠ go19))) (fun _ hk => by first | exact ⟨hk.1.1, hk.1.2⟩ | simp_all)⟩, ⟨by (with_reducible repeat (first | refine blk_drewN ?_ _ | refine blk_drew ?_ | refine blk_alloc ?_ _)); refine blk_far ?_ (by have h_ := Kd.R_ne HO_244001.out BK232.out (by decide); intro e_; exact h_ (by rw [e_]; rfl)) _; (with_reducible repeat (first | refine blk_drewN ?_ _ | refine blk_drew ?_ | refine blk_alloc ?_ _)); exact BK232.out⟩, ⟨by (with_reducible repeat (first | refine blk_drewN ?_ _ | refine blk_drew ?_ | refine blk_alloc ?_ _)); refine blk_far ?_ (by have h_ := Kd.R_ne HO_244001.out BK243.out (by decide); intro e_; exact h_ (by rw [e_]; rfl)) _; (with_reducible repeat (first | refine blk_drewN ?_ _ | refine blk_drew ?_ | refine blk_alloc ?_ _)); exact BK243.out⟩, ⟨by repeat (first | (with_reducible first | exact HI0.out | apply IsS158.alloc | apply IsS158.drewN | apply IsS158.drew | apply IsS158.set_1 | apply IsS158.set_2 | refine IsS158.far ?_ HN0_go19.out _ | refine IsS158.far ?_ NB0_232.out _ | refine IsS158.far ?_ NB0_243.out _) | exact HI0.out)⟩, ⟨PH⟩, ⟨by repeat (first | (with_reducible first | exact HB.out | apply below_alloc | apply pw_below_drewN | apply below_drew1 | refine below_set ?_ (Nat.le_trans HL.out GB19.out) | refine below_set ?_ (IsS158.ge HI0.out) | refine below_set ?_ GE232.out | refine below_set ?_ GE243.out) | exact HB.out)⟩⟩
    ·rw [if_neg c18] at H
     exact absurd H (by simp)
   ·rw [if_neg c16] at H
    have c16b0 : decide (x6_1 < (x244001_1.length : Int)) = false := decide_eq_false c16
    clear c16
    have H' := Aside0.mk H
    clear H
    have hnb27 := NB243_232.out
    have hnc27 := NB232_243.out
    have hnb28 := NB243_0.out
    have hnc28 := NB0_243.out
    obtain ⟨hcz29_0, hcz29_1, hcz29_2, hcz29_3, hfz29_0, hfz29_1, hfz29_2, hfz29_3⟩ := bc4 BK243
    obtain ⟨Ao30, co30, eo30⟩ := Kd.R_slice HO_244001.out
    subst eo30
    go_wp2
    go_loopg [7] k1 (fun kq v7 w' => ∃ (x7_2 : Int) (x1001_2 : Int) (x1002_2 : Int) (x244001_2 : List Int) (x244002_2 : List Int) (x244003_2 : List Int) (u244001 : Value) (u244002 : Value) (u244003 : Value), v7 = .int .i64 x7_2 ∧ Aside0 (spec_l11Draw.l1 kq x7_2 s0_0 x1001_2 x1002_2 t244 x244001_2 x244002_2 x244003_2 = some (r1, r2, r3, r4, r5, r6)) ∧ Aside0 (kq ≤ k1) ∧ Aside0 (Kd.R (Kd.int .i64) 3 w' w.heap.size (fun k_ => some k_ ≠ (u244002 : Value).ownBlock ∧ some k_ ≠ (u244003 : Value).ownBlock) u244001 x244001_2) ∧ Aside0 (Kd.R (Kd.int .i64) 3 w' w.heap.size (fun k_ => some k_ ≠ (u244001 : Value).ownBlock ∧ some k_ ≠ (u244003 : Value).ownBlock) u244002 x244002_2) ∧ Aside0 (Kd.R (Kd.int .i64) 3 w' w.heap.size (fun k_ => some k_ ≠ (u244001 : Value).ownBlock ∧ some k_ ≠ (u244002 : Value).ownBlock) u244003 x244003_2) ∧ Aside0 (w'.heap[gb232]? = some (.cells #[.int .i64 0, (.slice none 0 0), (.slice none 0 0), (.slice none 0 0)] 45 (0, 0))) ∧ Aside0 (w'.heap[gb243]? = some (.cells #[.int .i64 t244, u244001, u244002, u244003] 45 (0, 0))) ∧ Aside0 (IsS158 w0 w' g s0_0 x1001_2 x1002_2) ∧ Aside0 (KeepBut w w' g none) ∧ Aside0 (Below w0.heap.size w0 w'))
    case atStart => exact ⟨(0), (x1001_1), (x1002_1), (x244001_1), (x244002_1), (x244003_1), (.slice Ao30 x244001_1.length co30), (u244002), (u244003), (by first | rfl | (simp; done) | (simp [*]; done)), H', ⟨Nat.le_refl _⟩, ⟨PR HO_244001⟩, ⟨PR HO_244002⟩, ⟨PR HO_244003⟩, ⟨PK BK232⟩, ⟨PK BK243⟩, ⟨PI⟩, ⟨PH⟩, ⟨PL⟩⟩
    case round =>
     clear H'
     (try clear c1); (try clear p1); (try clear q1); (try clear hx1); (try clear c2); (try clear p2); (try clear c6); (try clear p6); (try clear c8); (try clear c9); (try clear c15); (try clear c16); (try clear c16b0); (try clear c18); (try clear c18b0); (try clear p19); (try clear q19); (try clear hx19); (try clear hf19); (try clear c20); (try clear c21); (try clear c27); (try clear c28); (try clear hcz10_0); (try clear hcz10_1); (try clear hcz10_2); (try clear hcz10_3); (try clear hcz15_0); (try clear hcz15_1); (try clear hcz15_2); (try clear hcz15_3); (try clear hcz22_0); (try clear hcz22_1); (try clear hcz22_2); (try clear hcz22_3); (try clear hcz29_0); (try clear hcz29_1); (try clear hcz29_2); (try clear hcz29_3); (try clear hfz10_0); (try clear hfz10_1); (try clear hfz10_2); (try clear hfz10_3); (try clear hfz15_0); (try clear hfz15_1); (try clear hfz15_2); (try clear hfz15_3); (try clear hfz22_0); (try clear hfz22_1); (try clear hfz22_2); (try clear hfz22_3); (try clear hfz29_0); (try clear hfz29_1); (try clear hfz29_2); (try clear hfz29_3); (try clear hx19_0); (try clear p19); (try clear p2); (try clear p6); (try clear q19)
     obtain ⟨x7_2, x1001_2, x1002_2, x244001_2, x244002_2, x244003_2, u244001, u244002, u244003, rfl, HA, HK2, HO_244001, HO_244002, HO_244003, BK232, BK243, HI0, HK, HB⟩ := hrel
     cases gk with
     | zero => exact absurd HA.out (by simp [spec_l11Draw.l1])
     | succ k2 =>
      have H := HA.out
      clear HA
      simp only [spec_l11Draw.l1] at H
      by_cases c31 : x7_2 < (x244002_2.length : Int)
      ·rw [if_pos c31] at H
       have c31b0 : decide (x7_2 < (x244002_2.length : Int)) = true := decide_eq_true c31
       clear c31
       replace H := Option.bind_eq_some_iff.mp H
       obtain ⟨⟨t251, t252, t253⟩, A320, H⟩ := H
       replace H : (if 0 ≤ x7_2 then (spec_l11Draw.l1 k2 (wrap64 (x7_2 + 1)) s0_0 t252 t253 t244 x244001_2 (x244002_2.set (x7_2 : Int).toNat t251) x244003_2) else (none)) = some (r1, r2, r3, r4, r5, r6) := H
       have A32 := Aside0.mk A320
       clear A320
       by_cases c33 : 0 ≤ x7_2
       ·rw [if_pos c33] at H
        have c33b0 : decide (0 ≤ x7_2) = true := decide_eq_true c33
        clear c33
        obtain ⟨y254, hy254⟩ : ∃ y_ : List Int, y_ = (x244002_2.set (x7_2 : Int).toNat t251) := ⟨_, rfl⟩
        replace H : (spec_l11Draw.l1 k2 (wrap64 (x7_2 + 1)) s0_0 t252 t253 t244 x244001_2 y254 x244003_2) = some (r1, r2, r3, r4, r5, r6) := by first | (rw [hy254]; with_reducible exact H) | (have H2_ := (Option.bind_some _ _).symm.trans H; rw [hy254]; with_reducible exact H2_) | (have H2_ := (Option.bind_some _ _).symm.trans H; with_reducible exact H2_) | with_reducible exact H | (rw [hy254]; exact H) | exact H
        have Ny254 := Aside0.mk hy254
        clear hy254
        have H' := Aside0.mk H
        clear H
        have hnb35 := NB243_232.out
        have hnc35 := NB232_243.out
        have hnb36 := NB243_0.out
        have hnc36 := NB0_243.out
        obtain ⟨hcz37_0, hcz37_1, hcz37_2, hcz37_3, hfz37_0, hfz37_1, hfz37_2, hfz37_3⟩ := bc4 BK243
        obtain ⟨Ao38, co38, eo38⟩ := Kd.R_slice HO_244002.out
        subst eo38
        try go_wp2
        replace HO_244001 := ak (Kd.R_drew HO_244001.out)
        replace HO_244002 := ak (Kd.R_drew HO_244002.out)
        replace HO_244003 := ak (Kd.R_drew HO_244003.out)
        replace BK232 := ak (blk_drew BK232.out)
        replace BK243 := ak (blk_drew BK243.out)
        replace HI0 := ak (IsS158.drew HI0.out)
        replace HK := ak (keep_drew HK.out)
        replace HB := ak (below_drew1 HB.out)
        refine start_ (n := 7) (S := fun w' => w'.cell? ⟨gb243, 0, none⟩ = some (.int .i64 t244) ∧ w'.cell? ⟨gb243, 1, none⟩ = some (u244001) ∧ w'.cell? ⟨gb243, 2, none⟩ = some (.slice Ao38 x244002_2.length co38) ∧ w'.cell? ⟨gb243, 3, none⟩ = some (u244003)) (ds := [6]) b3_7 KR rfl rfl ⟨(blk_cell BK243.out 0).trans rfl, (blk_cell BK243.out 1).trans rfl, (blk_cell BK243.out 2).trans rfl, (blk_cell BK243.out 3).trans rfl⟩ (fun hHeld => ?_)
        generalize wr.drew = w39 at HO_244001 HO_244002 HO_244003 BK232 BK243 HI0 HK HB hHeld ⊢
        refine pure_ (i := 0) (N := some 35) (v := ?_) (a' := ?_) b3_6 rfl rfl KR (fun _ _ _ h => h) (Or.inl ⟨by rfl, ?_⟩) ?_ ?_
        rotate_left
        ·intro w'
         go_simp
         with_reducible rfl
        rotate_left
        ·simp only [Act.put, List.setIfInBounds_toArray, List.set_cons_zero, List.set_cons_succ, i64_w, i32_w]
         rfl
        refine pure_ (i := 2) (N := some 37) (v := ?_) (a' := ?_) b3_5 rfl rfl KR (fun _ _ _ h => h) (Or.inl ⟨by rfl, ?_⟩) ?_ ?_
        rotate_left
        ·intro w'
         go_simp
         with_reducible rfl
        rotate_left
        ·simp only [Act.put, List.setIfInBounds_toArray, List.set_cons_zero, List.set_cons_succ, i64_w, i32_w]
         rfl
        refine pure_ (i := 3) (N := some 38) (v := ?_) (a' := ?_) b3_4 rfl rfl KR (fun _ _ _ h => h) (Or.inl ⟨by rfl, ?_⟩) ?_ ?_
        rotate_left
        ·intro w'
         go_simp
         with_reducible rfl
        rotate_left
        ·simp only [Act.put, List.setIfInBounds_toArray, List.set_cons_zero, List.set_cons_succ, i64_w, i32_w]
         rfl
        refine take_ (i := 1) (N := some 36) (v := ?_) (a' := ?_) b3_3 rfl rfl KR (fun _ _ _ h => h) (Or.inl ⟨by rfl, ?_⟩) hHeld ?_ ?_
        rotate_left
        ·rintro w' ⟨s0, s1, s2, s3⟩
         go_simp
         with_reducible rfl
        rotate_left
        ·simp only [Act.put, List.setIfInBounds_toArray, List.set_cons_zero, List.set_cons_succ, i64_w, i32_w]
         rfl
        refine one_ (i := 4) (N := some 39) b3_2 rfl rfl KR (by decide) (fun K hK => ?_)
        refine goes_ Try.func68 KR rfl #[.pointer (some ⟨g, 0, none⟩), .int .i64 9] (by rfl) rfl rfl AR ?_
        with_reducible refine (spec_l1Below.calls g s0_0 x1001_2 x1002_2 9 t251 t252 t253 w0 _ ?side1 ?side2 A32.out).mono ?_
        (case side1 => exact PI)
        (case side2 => exact PL)
        rintro e w40 ⟨rfl, hi, hb, hk⟩
        refine ⟨_, rfl, ?_⟩
        replace HO_244001 := Rk (IsS158.apart (show IsS158 w0 _ g s0_0 x1001_2 x1002_2 from PI) (PR HO_244001) (by decide)) hk
        replace HO_244002 := Rk (IsS158.apart (show IsS158 w0 _ g s0_0 x1001_2 x1002_2 from PI) (PR HO_244002) (by decide)) hk
        replace HO_244003 := Rk (IsS158.apart (show IsS158 w0 _ g s0_0 x1001_2 x1002_2 from PI) (PR HO_244003) (by decide)) hk
        replace BK232 := kq hk BK232 NB232_0
        replace BK243 := kq hk BK243 NB243_0
        replace HK := kt HK hk
        replace HB := ak hb
        replace HI0 := ak (hi)
        (try clear hb)
        (try clear hb2)
        (try clear hk)
        (try clear hi)
        have p34 : 0 ≤ (x7_2 : Int) := of_decide_eq_true (by first | (with_reducible assumption) | assumption)
        have q34 : (x7_2 : Int) < ((x244002_2.length : Int) : Int) := of_decide_eq_true (by first | (with_reducible assumption) | assumption)
        obtain ⟨go34, co34, eo34, gb34, gl34, cl34, HG34⟩ := Kd.R_form HO_244002.out (by omega)
        (first | cases eo34 | (injection eo34 with ea_ en_ ec_; (first | subst ea_ | (injection ea_ with ea_; subst ea_)); subst ec_; clear en_))
        have GB34 := Aside0.mk gb34
        have GG34 := Aside0.mk HG34
        clear gb34 gl34 HG34
        obtain ⟨hx34_0, hf34_0⟩ := Kd.R_celln 0 HO_244002.out (x7_2 : Int) p34 q34
        replace p34 := eq_true p34
        replace q34 := eq_true q34
        have HN0_go34 := ak (show g ≠ go34 from by have h_ := IsS158.own_ne HI0.out HO_244002.out (by decide); intro e_; exact h_ (by rw [e_]; rfl))
        have HP41 := Kd.R_putn HO_244002.out (x7_2 : Int) t251
        rw [← Ny254.out] at HP41
        have HQ41 := Aside0.mk HP41
        clear HP41
        refine hK.out _ _ ⟨(blk_cell BK243.out 0).trans rfl, (blk_cell BK243.out 1).trans rfl, (blk_cell BK243.out 2).trans rfl, (blk_cell BK243.out 3).trans rfl⟩ (fun hHeld => ?_)
        clear hK K
        refine norm_ (a' := ?_) ?_ ?_
        rotate_left
        ·show Act.put _ (some 39) _ = _
         simp only [Act.put, List.setIfInBounds_toArray, List.set_cons_zero, List.set_cons_succ, i64_w, i32_w]
         rfl
        refine pure_ (i := 5) (N := some 40) (v := ?_) (a' := ?_) b3_1 rfl rfl KR (fun _ _ _ h => h) (Or.inl ⟨by rfl, ?_⟩) ?_ ?_
        rotate_left
        ·intro w'
         go_simp
         with_reducible rfl
        rotate_left
        ·simp only [Act.put, List.setIfInBounds_toArray, List.set_cons_zero, List.set_cons_succ, i64_w, i32_w]
         rfl
        refine last_ (i := 6) (N := none) b3_0 rfl rfl KR (by decide) (fun K hK => ?_)
        refine skip_ (w1 := ?_) (by rfl) rfl ?_ ?_
        rotate_left
        ·go_simp
         rfl
        refine hK.out _ _ ?_
        clear hK K
        refine done_ KR ?_
        try go_wp2
        go_roundg k2
        case measure => have := HK1.out; have := HK2.out; omega
        case rel => exact ⟨(wrap64 (x7_2 + 1)), (t252), (t253), (x244001_2), (y254), (x244003_2), (u244001), (.slice (some ⟨go34, 0, none⟩) x244002_2.length co38), (u244003), (by first | rfl | (simp; done) | (simp [*]; done)), H', ⟨by have := HK1.out; have := HK2.out; omega⟩, ⟨RX (Kd.R_mono HO_244001.out (fun k_ hk => (⟨hk, fun e_ => hk.1 (by rw [e_]; rfl)⟩ : _ ∧ k_ ≠ go34))) (fun _ hk => by first | exact ⟨hk.1.1, hk.1.2⟩ | simp_all)⟩, ⟨PR HQ41⟩, ⟨RX (Kd.R_mono HO_244003.out (fun k_ hk => (⟨hk, fun e_ => hk.2 (by rw [e_]; rfl)⟩ : _ ∧ k_ ≠ go34))) (fun _ hk => by first | exact ⟨hk.1.1, hk.1.2⟩ | simp_all)⟩, ⟨by (with_reducible repeat (first | refine blk_drewN ?_ _ | refine blk_drew ?_ | refine blk_alloc ?_ _)); refine blk_far ?_ (by have h_ := Kd.R_ne HO_244002.out BK232.out (by decide); intro e_; exact h_ (by rw [e_]; rfl)) _; (with_reducible repeat (first | refine blk_drewN ?_ _ | refine blk_drew ?_ | refine blk_alloc ?_ _)); exact BK232.out⟩, ⟨by (with_reducible repeat (first | refine blk_drewN ?_ _ | refine blk_drew ?_ | refine blk_alloc ?_ _)); refine blk_far ?_ (by have h_ := Kd.R_ne HO_244002.out BK243.out (by decide); intro e_; exact h_ (by rw [e_]; rfl)) _; (with_reducible repeat (first | refine blk_drewN ?_ _ | refine blk_drew ?_ | refine blk_alloc ?_ _)); exact BK243.out⟩, ⟨by repeat (first | (with_reducible first | exact HI0.out | apply IsS158.alloc | apply IsS158.drewN | apply IsS158.drew | apply IsS158.set_1 | apply IsS158.set_2 | refine IsS158.far ?_ HN0_go34.out _ | refine IsS158.far ?_ NB0_232.out _ | refine IsS158.far ?_ NB0_243.out _) | exact HI0.out)⟩, ⟨PH⟩, ⟨by repeat (first | (with_reducible first | exact HB.out | apply below_alloc | apply pw_below_drewN | apply below_drew1 | refine below_set ?_ (Nat.le_trans HL.out GB34.out) | refine below_set ?_ (IsS158.ge HI0.out) | refine below_set ?_ GE232.out | refine below_set ?_ GE243.out) | exact HB.out)⟩⟩
       ·rw [if_neg c33] at H
        exact absurd H (by simp)
      ·rw [if_neg c31] at H
       have c31b0 : decide (x7_2 < (x244002_2.length : Int)) = false := decide_eq_false c31
       clear c31
       have H' := Aside0.mk H
       clear H
       have hnb42 := NB243_232.out
       have hnc42 := NB232_243.out
       have hnb43 := NB243_0.out
       have hnc43 := NB0_243.out
       obtain ⟨hcz44_0, hcz44_1, hcz44_2, hcz44_3, hfz44_0, hfz44_1, hfz44_2, hfz44_3⟩ := bc4 BK243
       obtain ⟨Ao45, co45, eo45⟩ := Kd.R_slice HO_244002.out
       subst eo45
       go_wp2
       go_loopg [8] k2 (fun kq v8 w' => ∃ (x8_3 : Int) (x1001_3 : Int) (x1002_3 : Int) (x244001_3 : List Int) (x244002_3 : List Int) (x244003_3 : List Int) (u244001 : Value) (u244002 : Value) (u244003 : Value), v8 = .int .i64 x8_3 ∧ Aside0 (spec_l11Draw.l2 kq x8_3 s0_0 x1001_3 x1002_3 t244 x244001_3 x244002_3 x244003_3 = some (r1, r2, r3, r4, r5, r6)) ∧ Aside0 (kq ≤ k2) ∧ Aside0 (Kd.R (Kd.int .i64) 3 w' w.heap.size (fun k_ => some k_ ≠ (u244002 : Value).ownBlock ∧ some k_ ≠ (u244003 : Value).ownBlock) u244001 x244001_3) ∧ Aside0 (Kd.R (Kd.int .i64) 3 w' w.heap.size (fun k_ => some k_ ≠ (u244001 : Value).ownBlock ∧ some k_ ≠ (u244003 : Value).ownBlock) u244002 x244002_3) ∧ Aside0 (Kd.R (Kd.int .i64) 3 w' w.heap.size (fun k_ => some k_ ≠ (u244001 : Value).ownBlock ∧ some k_ ≠ (u244002 : Value).ownBlock) u244003 x244003_3) ∧ Aside0 (w'.heap[gb232]? = some (.cells #[.int .i64 0, (.slice none 0 0), (.slice none 0 0), (.slice none 0 0)] 45 (0, 0))) ∧ Aside0 (w'.heap[gb243]? = some (.cells #[.int .i64 t244, u244001, u244002, u244003] 45 (0, 0))) ∧ Aside0 (IsS158 w0 w' g s0_0 x1001_3 x1002_3) ∧ Aside0 (KeepBut w w' g none) ∧ Aside0 (Below w0.heap.size w0 w'))
       case atStart => exact ⟨(0), (x1001_2), (x1002_2), (x244001_2), (x244002_2), (x244003_2), (u244001), (.slice Ao45 x244002_2.length co45), (u244003), (by first | rfl | (simp; done) | (simp [*]; done)), H', ⟨Nat.le_refl _⟩, ⟨PR HO_244001⟩, ⟨PR HO_244002⟩, ⟨PR HO_244003⟩, ⟨PK BK232⟩, ⟨PK BK243⟩, ⟨PI⟩, ⟨PH⟩, ⟨PL⟩⟩
       case round =>
        clear H'
        (try clear c1); (try clear p1); (try clear q1); (try clear hx1); (try clear c2); (try clear p2); (try clear c3); (try clear p3); (try clear q3); (try clear hx3); (try clear hf3); (try clear c4); (try clear c6); (try clear p6); (try clear c8); (try clear c9); (try clear c15); (try clear c16); (try clear c16b0); (try clear c18); (try clear c18b0); (try clear p19); (try clear q19); (try clear hx19); (try clear hf19); (try clear c20); (try clear c21); (try clear c27); (try clear c28); (try clear c31); (try clear c31b0); (try clear c33); (try clear c33b0); (try clear p34); (try clear q34); (try clear hx34); (try clear hf34); (try clear c35); (try clear c36); (try clear c42); (try clear c43); (try clear hcz10_0); (try clear hcz10_1); (try clear hcz10_2); (try clear hcz10_3); (try clear hcz15_0); (try clear hcz15_1); (try clear hcz15_2); (try clear hcz15_3); (try clear hcz22_0); (try clear hcz22_1); (try clear hcz22_2); (try clear hcz22_3); (try clear hcz29_0); (try clear hcz29_1); (try clear hcz29_2); (try clear hcz29_3); (try clear hcz37_0); (try clear hcz37_1); (try clear hcz37_2); (try clear hcz37_3); (try clear hcz44_0); (try clear hcz44_1); (try clear hcz44_2); (try clear hcz44_3); (try clear hfz10_0); (try clear hfz10_1); (try clear hfz10_2); (try clear hfz10_3); (try clear hfz15_0); (try clear hfz15_1); (try clear hfz15_2); (try clear hfz15_3); (try clear hfz22_0); (try clear hfz22_1); (try clear hfz22_2); (try clear hfz22_3); (try clear hfz29_0); (try clear hfz29_1); (try clear hfz29_2); (try clear hfz29_3); (try clear hfz37_0); (try clear hfz37_1); (try clear hfz37_2); (try clear hfz37_3); (try clear hfz44_0); (try clear hfz44_1); (try clear hfz44_2); (try clear hfz44_3); (try clear hx19_0); (try clear hx34_0); (try clear p1); (try clear p19); (try clear p2); (try clear p34); (try clear p6); (try clear q1); (try clear q19); (try clear q34)
        obtain ⟨x8_3, x1001_3, x1002_3, x244001_3, x244002_3, x244003_3, u244001, u244002, u244003, rfl, HA, HK3, HO_244001, HO_244002, HO_244003, BK232, BK243, HI0, HK, HB⟩ := hrel
        cases gk with
        | zero => exact absurd HA.out (by simp [spec_l11Draw.l2])
        | succ k3 =>
         have H := HA.out
         clear HA
         simp only [spec_l11Draw.l2] at H
         by_cases c46 : x8_3 < (x244003_3.length : Int)
         ·rw [if_pos c46] at H
          have c46b0 : decide (x8_3 < (x244003_3.length : Int)) = true := decide_eq_true c46
          clear c46
          replace H := Option.bind_eq_some_iff.mp H
          obtain ⟨⟨t255, t256, t257⟩, A470, H⟩ := H
          replace H : (if 0 ≤ x8_3 then (spec_l11Draw.l2 k3 (wrap64 (x8_3 + 1)) s0_0 t256 t257 t244 x244001_3 x244002_3 (x244003_3.set (x8_3 : Int).toNat t255)) else (none)) = some (r1, r2, r3, r4, r5, r6) := H
          have A47 := Aside0.mk A470
          clear A470
          by_cases c48 : 0 ≤ x8_3
          ·rw [if_pos c48] at H
           have c48b0 : decide (0 ≤ x8_3) = true := decide_eq_true c48
           clear c48
           obtain ⟨y258, hy258⟩ : ∃ y_ : List Int, y_ = (x244003_3.set (x8_3 : Int).toNat t255) := ⟨_, rfl⟩
           replace H : (spec_l11Draw.l2 k3 (wrap64 (x8_3 + 1)) s0_0 t256 t257 t244 x244001_3 x244002_3 y258) = some (r1, r2, r3, r4, r5, r6) := by first | (rw [hy258]; with_reducible exact H) | (have H2_ := (Option.bind_some _ _).symm.trans H; rw [hy258]; with_reducible exact H2_) | (have H2_ := (Option.bind_some _ _).symm.trans H; with_reducible exact H2_) | with_reducible exact H | (rw [hy258]; exact H) | exact H
           have Ny258 := Aside0.mk hy258
           clear hy258
           have H' := Aside0.mk H
           clear H
           have hnb50 := NB243_232.out
           have hnc50 := NB232_243.out
           have hnb51 := NB243_0.out
           have hnc51 := NB0_243.out
           obtain ⟨_, _, _, _, _, _, _, _⟩ := bc4 BK243
           obtain ⟨Ao53, co53, eo53⟩ := Kd.R_slice HO_244003.out
           subst eo53
           try go_wp2
           replace HO_244001 := ak (Kd.R_drew HO_244001.out)
           replace HO_244002 := ak (Kd.R_drew HO_244002.out)
           replace HO_244003 := ak (Kd.R_drew HO_244003.out)
           replace BK232 := ak (blk_drew BK232.out)
           replace BK243 := ak (blk_drew BK243.out)
           replace HI0 := ak (IsS158.drew HI0.out)
           replace HK := ak (keep_drew HK.out)
           replace HB := ak (below_drew1 HB.out)
           refine start_ (n := 7) (S := fun w' => w'.cell? ⟨gb243, 0, none⟩ = some (.int .i64 t244) ∧ w'.cell? ⟨gb243, 1, none⟩ = some (u244001) ∧ w'.cell? ⟨gb243, 2, none⟩ = some (u244002) ∧ w'.cell? ⟨gb243, 3, none⟩ = some (.slice Ao53 x244003_3.length co53)) (ds := [6]) b3_7 KR rfl rfl ⟨(blk_cell BK243.out 0).trans rfl, (blk_cell BK243.out 1).trans rfl, (blk_cell BK243.out 2).trans rfl, (blk_cell BK243.out 3).trans rfl⟩ (fun hHeld => ?_)
           generalize wr.drew = w54 at HO_244001 HO_244002 HO_244003 BK232 BK243 HI0 HK HB hHeld ⊢
           refine pure_ (i := 0) (N := some 48) (v := ?_) (a' := ?_) b3_6 rfl rfl KR (fun _ _ _ h => h) (Or.inl ⟨by rfl, ?_⟩) ?_ ?_
           rotate_left
           ·intro w'
            go_simp
            with_reducible rfl
           rotate_left
           ·simp only [Act.put, List.setIfInBounds_toArray, List.set_cons_zero, List.set_cons_succ, i64_w, i32_w]
            rfl
           refine pure_ (i := 2) (N := some 50) (v := ?_) (a' := ?_) b3_5 rfl rfl KR (fun _ _ _ h => h) (Or.inl ⟨by rfl, ?_⟩) ?_ ?_
           rotate_left
           ·intro w'
            go_simp
            with_reducible rfl
           rotate_left
           ·simp only [Act.put, List.setIfInBounds_toArray, List.set_cons_zero, List.set_cons_succ, i64_w, i32_w]
            rfl
           refine pure_ (i := 3) (N := some 51) (v := ?_) (a' := ?_) b3_4 rfl rfl KR (fun _ _ _ h => h) (Or.inl ⟨by rfl, ?_⟩) ?_ ?_
           rotate_left
           ·intro w'
            go_simp
            with_reducible rfl
           rotate_left
           ·simp only [Act.put, List.setIfInBounds_toArray, List.set_cons_zero, List.set_cons_succ, i64_w, i32_w]
            rfl
           refine take_ (i := 1) (N := some 49) (v := ?_) (a' := ?_) b3_3 rfl rfl KR (fun _ _ _ h => h) (Or.inl ⟨by rfl, ?_⟩) hHeld ?_ ?_
           rotate_left
           ·rintro w' ⟨s0, s1, s2, s3⟩
            go_simp
            with_reducible rfl
           rotate_left
           ·simp only [Act.put, List.setIfInBounds_toArray, List.set_cons_zero, List.set_cons_succ, i64_w, i32_w]
            rfl
           refine one_ (i := 4) (N := some 52) b3_2 rfl rfl KR (by decide) (fun K hK => ?_)
           refine goes_ Try.func68 KR rfl #[.pointer (some ⟨g, 0, none⟩), .int .i64 9] (by rfl) rfl rfl AR ?_
           with_reducible refine (spec_l1Below.calls g s0_0 x1001_3 x1002_3 9 t255 t256 t257 w0 _ ?side1 ?side2 A47.out).mono ?_
           (case side1 => exact PI)
           (case side2 => exact PL)
           rintro e w55 ⟨rfl, hi, hb, hk⟩
           refine ⟨_, rfl, ?_⟩
           replace HO_244001 := Rk (IsS158.apart (show IsS158 w0 _ g s0_0 x1001_3 x1002_3 from PI) (PR HO_244001) (by decide)) hk
           replace HO_244002 := Rk (IsS158.apart (show IsS158 w0 _ g s0_0 x1001_3 x1002_3 from PI) (PR HO_244002) (by decide)) hk
           replace HO_244003 := Rk (IsS158.apart (show IsS158 w0 _ g s0_0 x1001_3 x1002_3 from PI) (PR HO_244003) (by decide)) hk
           replace BK232 := kq hk BK232 NB232_0
           replace BK243 := kq hk BK243 NB243_0
           replace HK := kt HK hk
           replace HB := ak hb
           replace HI0 := ak (hi)
           (try clear hb)
           (try clear hb2)
           (try clear hk)
           (try clear hi)
           have p49 : 0 ≤ (x8_3 : Int) := of_decide_eq_true (by first | (with_reducible assumption) | assumption)
           have q49 : (x8_3 : Int) < ((x244003_3.length : Int) : Int) := of_decide_eq_true (by first | (with_reducible assumption) | assumption)
           obtain ⟨go49, co49, eo49, gb49, gl49, cl49, HG49⟩ := Kd.R_form HO_244003.out (by omega)
           (first | cases eo49 | (injection eo49 with ea_ en_ ec_; (first | subst ea_ | (injection ea_ with ea_; subst ea_)); subst ec_; clear en_))
           have GB49 := Aside0.mk gb49
           have GG49 := Aside0.mk HG49
           clear gb49 gl49 HG49
           obtain ⟨hx49_0, hf49_0⟩ := Kd.R_celln 0 HO_244003.out (x8_3 : Int) p49 q49
           replace p49 := eq_true p49
           replace q49 := eq_true q49
           have HN0_go49 := ak (show g ≠ go49 from by have h_ := IsS158.own_ne HI0.out HO_244003.out (by decide); intro e_; exact h_ (by rw [e_]; rfl))
           have HP56 := Kd.R_putn HO_244003.out (x8_3 : Int) t255
           rw [← Ny258.out] at HP56
           have HQ56 := Aside0.mk HP56
           clear HP56
           refine hK.out _ _ ⟨(blk_cell BK243.out 0).trans rfl, (blk_cell BK243.out 1).trans rfl, (blk_cell BK243.out 2).trans rfl, (blk_cell BK243.out 3).trans rfl⟩ (fun hHeld => ?_)
           clear hK K
           refine norm_ (a' := ?_) ?_ ?_
           rotate_left
           ·show Act.put _ (some 52) _ = _
            simp only [Act.put, List.setIfInBounds_toArray, List.set_cons_zero, List.set_cons_succ, i64_w, i32_w]
            rfl
           refine pure_ (i := 5) (N := some 53) (v := ?_) (a' := ?_) b3_1 rfl rfl KR (fun _ _ _ h => h) (Or.inl ⟨by rfl, ?_⟩) ?_ ?_
           rotate_left
           ·intro w'
            go_simp
            with_reducible rfl
           rotate_left
           ·simp only [Act.put, List.setIfInBounds_toArray, List.set_cons_zero, List.set_cons_succ, i64_w, i32_w]
            rfl
           refine last_ (i := 6) (N := none) b3_0 rfl rfl KR (by decide) (fun K hK => ?_)
           refine skip_ (w1 := ?_) (by rfl) rfl ?_ ?_
           rotate_left
           ·go_simp
            rfl
           refine hK.out _ _ ?_
           clear hK K
           refine done_ KR ?_
           try go_wp2
           go_roundg k3
           case measure => have := HK1.out; have := HK2.out; have := HK3.out; omega
           case rel => exact ⟨(wrap64 (x8_3 + 1)), (t256), (t257), (x244001_3), (x244002_3), (y258), (u244001), (u244002), (.slice (some ⟨go49, 0, none⟩) x244003_3.length co53), (by first | rfl | (simp; done) | (simp [*]; done)), H', ⟨by have := HK1.out; have := HK2.out; have := HK3.out; omega⟩, ⟨RX (Kd.R_mono HO_244001.out (fun k_ hk => (⟨hk, fun e_ => hk.2 (by rw [e_]; rfl)⟩ : _ ∧ k_ ≠ go49))) (fun _ hk => by first | exact ⟨hk.1.1, hk.1.2⟩ | simp_all)⟩, ⟨RX (Kd.R_mono HO_244002.out (fun k_ hk => (⟨hk, fun e_ => hk.2 (by rw [e_]; rfl)⟩ : _ ∧ k_ ≠ go49))) (fun _ hk => by first | exact ⟨hk.1.1, hk.1.2⟩ | simp_all)⟩, ⟨PR HQ56⟩, ⟨by (with_reducible repeat (first | refine blk_drewN ?_ _ | refine blk_drew ?_ | refine blk_alloc ?_ _)); refine blk_far ?_ (by have h_ := Kd.R_ne HO_244003.out BK232.out (by decide); intro e_; exact h_ (by rw [e_]; rfl)) _; (with_reducible repeat (first | refine blk_drewN ?_ _ | refine blk_drew ?_ | refine blk_alloc ?_ _)); exact BK232.out⟩, ⟨by (with_reducible repeat (first | refine blk_drewN ?_ _ | refine blk_drew ?_ | refine blk_alloc ?_ _)); refine blk_far ?_ (by have h_ := Kd.R_ne HO_244003.out BK243.out (by decide); intro e_; exact h_ (by rw [e_]; rfl)) _; (with_reducible repeat (first | refine blk_drewN ?_ _ | refine blk_drew ?_ | refine blk_alloc ?_ _)); exact BK243.out⟩, ⟨by repeat (first | (with_reducible first | exact HI0.out | apply IsS158.alloc | apply IsS158.drewN | apply IsS158.drew | apply IsS158.set_1 | apply IsS158.set_2 | refine IsS158.far ?_ HN0_go49.out _ | refine IsS158.far ?_ NB0_232.out _ | refine IsS158.far ?_ NB0_243.out _) | exact HI0.out)⟩, ⟨PH⟩, ⟨by repeat (first | (with_reducible first | exact HB.out | apply below_alloc | apply pw_below_drewN | apply below_drew1 | refine below_set ?_ (Nat.le_trans HL.out GB49.out) | refine below_set ?_ (IsS158.ge HI0.out) | refine below_set ?_ GE232.out | refine below_set ?_ GE243.out) | exact HB.out)⟩⟩
          ·rw [if_neg c48] at H
           exact absurd H (by simp)
         ·rw [if_neg c46] at H
          have c46b0 : decide (x8_3 < (x244003_3.length : Int)) = false := decide_eq_false c46
          clear c46
          simp only [Option.some.injEq, Prod.mk.injEq] at H
          obtain ⟨rfl, rfl, rfl, rfl, rfl, rfl⟩ := H
          have hnb57 := NB243_232.out
          have hnc57 := NB232_243.out
          have hnb58 := NB243_0.out
          have hnc58 := NB0_243.out
          obtain ⟨_, _, _, _, _, _, _, _⟩ := bc4 BK243
          obtain ⟨Ao60, co60, eo60⟩ := Kd.R_slice HO_244003.out
          subst eo60
          have hnb61 := NB232_0.out
          have hnc61 := NB0_232.out
          obtain ⟨_, _, _, _, _, _, _, _⟩ := bc4 BK232
          obtain ⟨Ao63, co63, eo63⟩ := Kd.R_slice HO_244001.out
          subst eo63
          obtain ⟨Ao64, co64, eo64⟩ := Kd.R_slice HO_244002.out
          subst eo64
          go_wp2
          refine bodyPost_ret (results_cell_row rfl _ _ gb232 45 #[.int .i64 t244, .slice Ao63 x244001_3.length co63, .slice Ao64 x244002_3.length co64, .slice Ao60 x244003_3.length co60] (0, 0) _ rfl (PX BK232) Try.underlying45 rfl KR) rfl ?_
          exact ⟨_, _, _, RT, Re1 HO_244001 BK232, Re1 HO_244002 BK232, Re1 HO_244003 BK232, PI, PL, PH⟩

end Go.Proofs.Ytgcamebeonodeaa.MFnMachine
