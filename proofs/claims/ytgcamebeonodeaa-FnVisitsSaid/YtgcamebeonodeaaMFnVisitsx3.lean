-- Written by a program of this session out of the translation's own print. Not trusted: Lean checks it.
import Derived.Test.YtgcamebeonodeaaShr2
import Derived.Test.YtgcamebeonodeaaMFnVisitsx0
import Derived.Test.YtgcamebeonodeaaMFnVisitsx2
namespace Go.Proofs.Ytgcamebeonodeaa.MFnVisits
open Go.RowKit Go.Proofs.YtgcamebeonodeaaW.PrintWords Go.Proofs.YtgcamebeonodeaaW.PrintLast Go.Proofs.YtgcamebeonodeaaW.PrintMore
attribute [local go_sem] max2_int min2_int max_two min_two max_three min_three max_four min_four   -- for this text's walks alone
set_option linter.unusedVariables false
set_option linter.unusedSimpArgs false

/-! ### spec_l12Draw: function 135 -/
def spec_l12Draw.l0 : Nat → Int → List Int → Int → Int → List (S169) → Int → Int → List Int → Option ((List (S169)) × Int × Int × List Int × Int × Int)
  | 0, _, _, _, _, _, _, _, _ => none
  | k + 1, x4, x1000, x1001, x1002, x199000, x199001, x199002, x199003 => if x4 > 0 then ((spec_l1Below.f x1000 x1001 x1002 9).bind fun bt202 => (if x199003.length < 17592186044416 then (spec_l12Draw.l0 k (wrap64 (x4 - 1)) x1000 bt202.2.1 bt202.2.2 x199000 x199001 x199002 (x199003 ++ [bt202.1])) else (none))) else (some (x199000, x199001, x199002, x199003, x1001, x1002))
def spec_l12Draw.f (k : Nat) (s0_0 : List Int) (s0_1 : Int) (s0_2 : Int) : Option ((List (S169)) × Int × Int × List Int × Int × Int) := (spec_l9Draw.f k s0_0 s0_1 s0_2).bind fun bt187 => ((spec_l1Below.f s0_0 bt187.2.1 bt187.2.2 12).bind fun bt192 => ((spec_l1Below.f s0_0 bt192.2.1 bt192.2.2 50).bind fun bt195 => ((spec_l1Below.f s0_0 bt195.2.1 bt195.2.2 4).bind fun bt199 => (spec_l12Draw.l0 k bt199.1 s0_0 bt199.2.1 bt199.2.2 bt187.1 bt192.1 bt195.1 ([] : List Int)))))
def spec_l12Draw.T5 : Bool × List (List Nat × List Nat) := (true, [([], []), ([0], [0]), ([], []), ([2], [2]), ([3], [3]), ([1, 4, 3], [1, 4]), ([0, 1, 2, 3, 4, 5], []), ([6, 5, 5, 0, 1, 2, 3, 4, 5], [5, 6])])
def spec_l12Draw.B5 : List Nat := [0, 1, 0, 4, 12, 31, 63, 127]
theorem spec_l12Draw.tab5 : rtab .any (opsOf Try.f135 5) = spec_l12Draw.T5 := by kernel_rfl
theorem spec_l12Draw.bits5 : waitsOk spec_l12Draw.T5.2 spec_l12Draw.B5 = true := by kernel_rfl
set_option maxHeartbeats 8000000 in
set_option maxRecDepth 100000 in
theorem spec_l12Draw.calls (k : Nat) (g : Nat) (s0_0 : List Int) (s0_1 : Int) (s0_2 : Int) (r1 : List (S169)) (r2 : Int) (r3 : Int) (r4 : List Int) (r5 : Int) (r6 : Int) (w0 w : World) (hI : IsS158 w0 w g s0_0 s0_1 s0_2) (hB : Below w0.heap.size w0 w) (h : spec_l12Draw.f k s0_0 s0_1 s0_2 = some (r1, r2, r3, r4, r5, r6)) :
  Calls Try.prog 135 #[.pointer (some ⟨g, 0, none⟩)] w fun e w' => ∃ v0_ v3_ : Value, e = .returned (.agg #[v0_, .int .i64 r2, .int .i64 r3, v3_]) ∧ Kd.S k169 169 w' w.heap.size (fun k_ => some k_ ≠ (v3_ : Value).ownBlock) v0_ r1 ∧ Kd.R (Kd.int .i64) 3 w' w.heap.size (fun _ => True) v3_ r4 ∧ IsS158 w0 w' g s0_0 r5 r6 ∧ Below w0.heap.size w0 w' ∧ KeepBut w w' g none := by
 have hu61 := Try.underlying61
 have HI0 := Aside0.mk hI
 have HK := ak (KeepBut.refl w g none)
 have HL := Aside0.mk hB.size
 clear hI
 have HW0 := Aside0.mk hB.size
 have HB := Aside0.mk hB
 clear hB
 have H : ((spec_l9Draw.f k s0_0 s0_1 s0_2).bind fun bt187 => ((spec_l1Below.f s0_0 bt187.2.1 bt187.2.2 12).bind fun bt192 => ((spec_l1Below.f s0_0 bt192.2.1 bt192.2.2 50).bind fun bt195 => ((spec_l1Below.f s0_0 bt195.2.1 bt195.2.2 4).bind fun bt199 => (spec_l12Draw.l0 k bt199.1 s0_0 bt199.2.1 bt199.2.2 bt187.1 bt192.1 bt195.1 ([] : List Int)))))) = some (r1, r2, r3, r4, r5, r6) := h
 clear h
 replace H := Option.bind_eq_some_iff.mp H
 obtain ⟨⟨t187, t190, t191⟩, A20, H⟩ := H
 replace H : ((spec_l1Below.f s0_0 t190 t191 12).bind fun bt192 => ((spec_l1Below.f s0_0 bt192.2.1 bt192.2.2 50).bind fun bt195 => ((spec_l1Below.f s0_0 bt195.2.1 bt195.2.2 4).bind fun bt199 => (spec_l12Draw.l0 k bt199.1 s0_0 bt199.2.1 bt199.2.2 t187 bt192.1 bt195.1 ([] : List Int))))) = some (r1, r2, r3, r4, r5, r6) := H
 have A2 := Aside0.mk A20
 clear A20
 replace H := Option.bind_eq_some_iff.mp H
 obtain ⟨⟨t192, t193, t194⟩, A30, H⟩ := H
 replace H : ((spec_l1Below.f s0_0 t193 t194 50).bind fun bt195 => ((spec_l1Below.f s0_0 bt195.2.1 bt195.2.2 4).bind fun bt199 => (spec_l12Draw.l0 k bt199.1 s0_0 bt199.2.1 bt199.2.2 t187 t192 bt195.1 ([] : List Int)))) = some (r1, r2, r3, r4, r5, r6) := H
 have A3 := Aside0.mk A30
 clear A30
 replace H := Option.bind_eq_some_iff.mp H
 obtain ⟨⟨t195, t196, t197⟩, A40, H⟩ := H
 replace H : ((spec_l1Below.f s0_0 t196 t197 4).bind fun bt199 => (spec_l12Draw.l0 k bt199.1 s0_0 bt199.2.1 bt199.2.2 t187 t192 t195 ([] : List Int))) = some (r1, r2, r3, r4, r5, r6) := H
 have A4 := Aside0.mk A40
 clear A40
 replace H := Option.bind_eq_some_iff.mp H
 obtain ⟨⟨t199, t200, t201⟩, A50, H⟩ := H
 replace H : (spec_l12Draw.l0 k t199 s0_0 t200 t201 t187 t192 t195 ([] : List Int)) = some (r1, r2, r3, r4, r5, r6) := H
 have A5 := Aside0.mk A50
 clear A50
 have H' := Aside0.mk H
 clear H
 go_enter Try.func135, Try.ntmps135
 go_wp2_with (first | ((with_reducible refine gate_dst (N := 2) rfl ?_); refine bx_ (N := 2) #[.slice none 0 0, .int .i64 0, .int .i64 0, .slice none 0 0] 61 ?_; intro gb186 hg w6 hbox hb; replace HB := bs HB hb; have BK186 := ak hbox; have GW186 := ak (kz hg HK); have GE186 := ak (Nat.le_trans HW0.out (kz hg HK)); replace HK := ak (KeepBut.trans PH (KeepBut.of_below hb g none) (.inl rfl)); have NB0_186 := ak (nh hg (IsS158.lt (show IsS158 w0 _ g s0_0 s0_1 s0_2 from PI))); have NB186_0 := ak (ng hg (IsS158.lt (show IsS158 w0 _ g s0_0 s0_1 s0_2 from PI))); replace HI0 := ak (IsS158.below PI hb); clear hb hbox hg) | ((with_reducible refine gate_callee (f := 159) rfl ?_); refine goesL_ (some 6) rfl rfl Try.func159 KR rfl #[.pointer (some ⟨g, 0, none⟩)] rfl AR ?_; (with_reducible refine (spec_l9Draw.calls k g s0_0 s0_1 s0_2 t187 t190 t191 w0 _ ?side1 ?side2 A2.out).mono ?_); (case side1 => exact PI); (case side2 => exact PL); rintro e w7 ⟨v188, rfl, ho0, hi, hb, hk⟩; refine ⟨_, rfl, ?_⟩; replace BK186 := kq hk BK186 NB186_0; have HO189 := ak (Kd.S_lower ho0 (keep_size (w := w) (g := g) (row := none) PH)); replace HK := kt HK hk; replace HB := ak hb; replace HI0 := ak (hi); (try clear hb); (try clear hb2); (try clear hk); (try clear hi); (try clear ho0)) | ((with_reducible refine gate_callee (f := 68) rfl ?_); refine goesL_ (some 8) rfl rfl Try.func68 KR rfl #[.pointer (some ⟨g, 0, none⟩), .int .i64 12] rfl AR ?_; (with_reducible refine (spec_l1Below.calls g s0_0 t190 t191 12 t192 t193 t194 w0 _ ?side1 ?side2 A3.out).mono ?_); (case side1 => exact PI); (case side2 => exact PL); rintro e w8 ⟨rfl, hi, hb, hk⟩; refine ⟨_, rfl, ?_⟩; replace BK186 := kq hk BK186 NB186_0; replace HO189 := Sk (IsS158.apartS (show IsS158 w0 _ g s0_0 t190 t191 from PI) (PS HO189) (by decide)) hk; replace HK := kt HK hk; replace HB := ak hb; replace HI0 := ak (hi); (try clear hb); (try clear hb2); (try clear hk); (try clear hi)) | ((with_reducible refine gate_callee (f := 68) rfl ?_); refine goesL_ (some 10) rfl rfl Try.func68 KR rfl #[.pointer (some ⟨g, 0, none⟩), .int .i64 50] rfl AR ?_; (with_reducible refine (spec_l1Below.calls g s0_0 t193 t194 50 t195 t196 t197 w0 _ ?side1 ?side2 A4.out).mono ?_); (case side1 => exact PI); (case side2 => exact PL); rintro e w9 ⟨rfl, hi, hb, hk⟩; refine ⟨_, rfl, ?_⟩; replace BK186 := kq hk BK186 NB186_0; replace HO189 := Sk (IsS158.apartS (show IsS158 w0 _ g s0_0 t193 t194 from PI) (PS HO189) (by decide)) hk; replace HK := kt HK hk; replace HB := ak hb; replace HI0 := ak (hi); (try clear hb); (try clear hb2); (try clear hk); (try clear hi); obtain ⟨Ao10, co10, eo10⟩ := Kd.S_slice HO189.out; subst eo10) | ((with_reducible refine gate_dst (N := 3) rfl ?_); refine bx_ (N := 3) #[.slice none 0 0, .int .i64 0, .int .i64 0, .slice none 0 0] 61 ?_; intro gb198 hg w11 hbox hb; replace HO189 := Sb HO189 hb; replace HB := bs HB hb; have BK198 := ak hbox; have GW198 := ak (kz hg HK); have GE198 := ak (Nat.le_trans HW0.out (kz hg HK)); replace HK := ak (KeepBut.trans PH (KeepBut.of_below hb g none) (.inl rfl)); have NB186_198 := gm hg BK186; have NB198_186 := gn hg BK186; replace BK186 := kf BK186 hb; have NB0_198 := ak (nh hg (IsS158.lt (show IsS158 w0 _ g s0_0 t196 t197 from PI))); have NB198_0 := ak (ng hg (IsS158.lt (show IsS158 w0 _ g s0_0 t196 t197 from PI))); replace HI0 := ak (IsS158.below PI hb); clear hb hbox hg; have hnb12 := NB198_186.out; have hnc12 := NB186_198.out; have hnb13 := NB198_0.out; have hnc13 := NB0_198.out; obtain ⟨hcz14_0, hcz14_1, hcz14_2, hcz14_3, hfz14_0, hfz14_1, hfz14_2, hfz14_3⟩ := bc4 BK198) | ((with_reducible refine gate_callee (f := 68) rfl ?_); refine goesL_ (some 13) rfl rfl Try.func68 KR rfl #[.pointer (some ⟨g, 0, none⟩), .int .i64 4] rfl AR ?_; (with_reducible refine (spec_l1Below.calls g s0_0 t196 t197 4 t199 t200 t201 w0 _ ?side1 ?side2 A5.out).mono ?_); (case side1 => exact PI); (case side2 => exact PL); rintro e w15 ⟨rfl, hi, hb, hk⟩; refine ⟨_, rfl, ?_⟩; replace BK186 := kq hk BK186 NB186_0; replace HO189 := Sk (IsS158.apartS (show IsS158 w0 _ g s0_0 t196 t197 from PI) (Se1 HO189 BK198) (by decide)) hk; replace BK198 := kr (cs' := #[.slice Ao10 t187.length co10, .int .i64 t192, .int .i64 t195, .slice none 0 0]) hk BK198 NB198_0; replace HK := kt HK hk; replace HB := ak hb; replace HI0 := ak (hi); (try clear hb); (try clear hb2); (try clear hk); (try clear hi)))
 go_loopg [4] k (fun kq v4 w' => ∃ (x4_1 : Int) (x1001_1 : Int) (x1002_1 : Int) (x199003_1 : List Int) (u199003 : Value), v4 = .int .i64 x4_1 ∧ Aside0 (spec_l12Draw.l0 kq x4_1 s0_0 x1001_1 x1002_1 t187 t192 t195 x199003_1 = some (r1, r2, r3, r4, r5, r6)) ∧ Aside0 (kq ≤ k) ∧ Aside0 (Kd.S k169 169 w' w.heap.size (fun k_ => some k_ ≠ (u199003 : Value).ownBlock) (.slice Ao10 t187.length co10) t187) ∧ Aside0 (Kd.R (Kd.int .i64) 3 w' w.heap.size (fun _ => True) u199003 x199003_1) ∧ Aside0 (w'.heap[gb186]? = some (.cells #[(.slice none 0 0), .int .i64 0, .int .i64 0, (.slice none 0 0)] 61 (0, 0))) ∧ Aside0 (w'.heap[gb198]? = some (.cells #[(.slice Ao10 t187.length co10), .int .i64 t192, .int .i64 t195, u199003] 61 (0, 0))) ∧ Aside0 (IsS158 w0 w' g s0_0 x1001_1 x1002_1) ∧ Aside0 (KeepBut w w' g none) ∧ Aside0 (Below w0.heap.size w0 w'))
 case atStart => exact ⟨(t199), (t200), (t201), (([] : List Int)), (.slice none 0 0), (by first | rfl | (simp; done) | (simp [*]; done)), H', ⟨Nat.le_refl _⟩, ⟨SX HO189.out (fun _ hk => (by simp [Value.ownBlock]))⟩, ⟨by first | exact Kd.R_nil _ _ _ _ _ | exact Kd.N_nil _ _ _ _ _ | exact Kd.V_nil _ _ _ _ _ | exact Kd.Q_nil _ _ _ _ _ | exact Kd.S_nil _ _ _ _ _⟩, ⟨PK BK186⟩, ⟨PK BK198⟩, ⟨PI⟩, ⟨PH⟩, ⟨PL⟩⟩
 case round =>
  clear H'
  (try clear c1); (try clear p2); (try clear c6); (try clear c12); (try clear c13); (try clear c15); (try clear hcz14_0); (try clear hcz14_1); (try clear hcz14_2); (try clear hcz14_3); (try clear hfz14_0); (try clear hfz14_1); (try clear hfz14_2); (try clear hfz14_3)
  obtain ⟨x4_1, x1001_1, x1002_1, x199003_1, u199003, rfl, HA, HK1, HO_199000, HO_199003, BK186, BK198, HI0, HK, HB⟩ := hrel
  cases gk with
  | zero => exact absurd HA.out (by simp [spec_l12Draw.l0])
  | succ k1 =>
   have H := HA.out
   clear HA
   simp only [spec_l12Draw.l0] at H
   by_cases c16 : x4_1 > 0
   ·rw [if_pos c16] at H
    have c16b0 : decide (0 < x4_1) = true := decide_eq_true c16
    clear c16
    replace H := Option.bind_eq_some_iff.mp H
    obtain ⟨⟨t202, t203, t204⟩, A170, H⟩ := H
    replace H : (if x199003_1.length < 17592186044416 then (spec_l12Draw.l0 k1 (wrap64 (x4_1 - 1)) s0_0 t203 t204 t187 t192 t195 (x199003_1 ++ [t202])) else (none)) = some (r1, r2, r3, r4, r5, r6) := H
    have A17 := Aside0.mk A170
    clear A170
    by_cases c18 : x199003_1.length < 17592186044416
    ·rw [if_pos c18] at H
     have LMc18 := Aside0.mk c18
     clear c18
     obtain ⟨y205, hy205⟩ : ∃ y_ : List Int, y_ = (x199003_1 ++ [t202]) := ⟨_, rfl⟩
     replace H : (spec_l12Draw.l0 k1 (wrap64 (x4_1 - 1)) s0_0 t203 t204 t187 t192 t195 y205) = some (r1, r2, r3, r4, r5, r6) := by first | (rw [hy205]; with_reducible exact H) | (have H2_ := (Option.bind_some _ _).symm.trans H; rw [hy205]; with_reducible exact H2_) | (have H2_ := (Option.bind_some _ _).symm.trans H; with_reducible exact H2_) | with_reducible exact H | (rw [hy205]; exact H) | exact H
     have Ny205 := Aside0.mk hy205
     clear hy205
     have H' := Aside0.mk H
     clear H
     try go_wp2
     replace HO_199000 := ak (Kd.S_drew HO_199000.out)
     replace HO_199003 := ak (Kd.R_drew HO_199003.out)
     replace BK186 := ak (blk_drew BK186.out)
     replace BK198 := ak (blk_drew BK198.out)
     replace HI0 := ak (IsS158.drew HI0.out)
     replace HK := ak (keep_drew HK.out)
     replace HB := ak (below_drew1 HB.out)
     refine start_ (n := 8) (S := fun w' => w'.cell? ⟨gb198, 0, none⟩ = some (.slice Ao10 t187.length co10) ∧ w'.cell? ⟨gb198, 1, none⟩ = some (.int .i64 t192) ∧ w'.cell? ⟨gb198, 2, none⟩ = some (.int .i64 t195) ∧ w'.cell? ⟨gb198, 3, none⟩ = some (u199003)) (ds := [7]) #[false, false, false, false, false, false, false, false] KR rfl rfl ⟨(blk_cell BK198.out 0).trans rfl, (blk_cell BK198.out 1).trans rfl, (blk_cell BK198.out 2).trans rfl, (blk_cell BK198.out 3).trans rfl⟩ (fun hHeld => ?_); refine with_tabW spec_l12Draw.tab5 spec_l12Draw.bits5 (fun HT_ HW_ => ?_)
     generalize wr.drew = w19 at HO_199000 HO_199003 BK186 BK198 HI0 HK HB hHeld ⊢
     refine pu_ (i := 0) (N := some 18) #[true, false, false, false, false, false, false, false] HT_ ?_
     refine pu_ (i := 2) (N := some 20) #[true, false, true, false, false, false, false, false] HT_ ?_
     refine tk_ (i := 1) (N := some 19) #[true, true, true, false, false, false, false, false] rfl rfl HT_ HW_ hHeld ?_
     refine one_ (i := 3) (N := some 21) #[true, true, true, true, false, false, false, false] rfl rfl (one_of HT_.out KR) (by decide) (fun K hK => ?_)
     refine goes_ Try.func68 KR rfl #[.pointer (some ⟨g, 0, none⟩), .int .i64 9] (by rfl) rfl rfl AR ?_
     with_reducible refine (spec_l1Below.calls g s0_0 x1001_1 x1002_1 9 t202 t203 t204 w0 _ ?side1 ?side2 A17.out).mono ?_
     (case side1 => exact PI)
     (case side2 => exact PL)
     rintro e w20 ⟨rfl, hi, hb, hk⟩
     refine ⟨_, rfl, ?_⟩
     replace HO_199000 := Sk (IsS158.apartS (show IsS158 w0 _ g s0_0 x1001_1 x1002_1 from PI) (PS HO_199000) (by decide)) hk
     replace HO_199003 := Rk (IsS158.apart (show IsS158 w0 _ g s0_0 x1001_1 x1002_1 from PI) (PR HO_199003) (by decide)) hk
     replace BK186 := kq hk BK186 NB186_0
     replace BK198 := kq hk BK198 NB198_0
     replace HK := kt HK hk
     replace HB := ak hb
     replace HI0 := ak (hi)
     (try clear hb)
     (try clear hb2)
     (try clear hk)
     (try clear hi)
     refine hK.out _ _ ⟨(blk_cell BK198.out 0).trans rfl, (blk_cell BK198.out 1).trans rfl, (blk_cell BK198.out 2).trans rfl, (blk_cell BK198.out 3).trans rfl⟩ (fun hHeld => ?_)
     clear hK K
     refine norm_ (a' := ?_) ?_ ?_
     rotate_left
     ·show Act.put _ (some 21) _ = _
      simp only [Act.put, List.setIfInBounds_toArray, List.set_cons_zero, List.set_cons_succ, i64_w, i32_w]
      rfl
     refine one_ (i := 4) (N := some 22) #[true, true, true, true, true, false, false, false] rfl rfl (one_of HT_.out KR) (by decide) (fun K hK => ?_)
     refine value_ (w1 := ?_) (v := ?_) (by rfl) rfl ?_ ?_
     rotate_left 2
     ·go_simp
      constructor
      ·rfl
      ·rfl
     refine hK.out _ _ ⟨(blk_cell (blk_alloc BK198.out _) 0).trans rfl, (blk_cell (blk_alloc BK198.out _) 1).trans rfl, (blk_cell (blk_alloc BK198.out _) 2).trans rfl, (blk_cell (blk_alloc BK198.out _) 3).trans rfl⟩ (fun hHeld => ?_)
     clear hK K
     refine norm_ (a' := ?_) ?_ ?_
     rotate_left
     ·show Act.put _ (some 22) _ = _
      simp only [Act.put, List.setIfInBounds_toArray, List.set_cons_zero, List.set_cons_succ, i64_w, i32_w]
      rfl
     refine one_ (i := 5) (N := some 23) #[true, true, true, true, true, true, false, false] rfl rfl (one_of HT_.out KR) (by decide) (fun K hK => ?_)
     refine Kd.R_append_step (Kd.int .i64) w.heap.size (by rfl) (.tmp 19) (.tmp 22) 36 3 (.int .i64 0) 8 rfl Try.underlying36 info3 rfl (by decide) (by omega) u199003 x199003_1 t202 [.int .i64 t202] (fun _ => True) (fun _ => False) rfl rfl ?aP (fun _ hk => hk.elim) ?aF ?aO (Below.refl _ _) ?aS ?aL ?_
     (case aP => exact rfl)
     (case aF => exact (fun _ _ => trivial))
     (case aO => exact (PR HO_199003))
     (case aS => exact (keep_size (w := w) (g := g) (row := none) PH))
     (case aL => have := LMc18.out; omega)
     intro v206 w21 ho hb hg hat
     rw [← Ny205.out] at ho
     replace HO_199000 := ak (Kd.S_after (ok := (fun _ => True)) (SX HO_199000.out (fun _ hk => ⟨trivial, hk⟩)) hg hat)
     replace BK186 := ak (blk_grown (g := gb186) (o := .cells #[.slice none 0 0, .int .i64 0, .int .i64 0, .slice none 0 0] 61 (0, 0)) (PK BK186) hg (Kd.R_ne HO_199003.out BK186.out (by decide)))
     replace BK198 := ak (blk_grown (g := gb198) (o := .cells #[.slice Ao10 t187.length co10, .int .i64 t192, .int .i64 t195, u199003] 61 (0, 0)) (PK BK198) hg (Kd.R_ne HO_199003.out BK198.out (by decide)))
     replace HI0 := ak (IsS158.grown PI hg (IsS158.own_ne HI0.out HO_199003.out (by decide)))
     replace HB := ak (below_weaken PL HL.out hb)
     replace HK := ak (KeepBut.trans PH (KeepBut.of_grown hg g) (Kd.R_base2 HO_199003.out))
     have HO207 := ak (ho)
     clear HO_199003
     clear ho hb hg hat
     obtain ⟨Ao22, co22, eo22⟩ := Kd.R_slice HO207.out
     (first | subst eo22 | (injection eo22 with f1_ f2_ f3_; have f4_ := f1_.symm; have f5_ := f3_.symm; clear f1_ f2_ f3_; subst f4_; subst f5_))
     refine hK.out _ _ ⟨(blk_cell BK198.out 0).trans rfl, (blk_cell BK198.out 1).trans rfl, (blk_cell BK198.out 2).trans rfl, (blk_cell BK198.out 3).trans rfl⟩ (fun hHeld => ?_)
     clear hK K
     refine norm_ (a' := ?_) ?_ ?_
     rotate_left
     ·show Act.put _ (some 23) _ = _
      simp only [Act.put, List.setIfInBounds_toArray, List.set_cons_zero, List.set_cons_succ, i64_w, i32_w]
      rfl
     refine pu_ (i := 6) (N := some 24) #[true, true, true, true, true, true, true, false] HT_ ?_
     refine last_ (i := 7) (N := none) #[true, true, true, true, true, true, true, true] rfl rfl (one_of HT_.out KR) (by decide) (fun K hK => ?_)
     have hs23 : w21.cell? ⟨gb198, 3, none⟩ = some (u199003) := (blk_cell BK198.out 3).trans rfl
     have hfs23 := blk_frozen BK198.out 3
     have hns23_0 := NB186_198.out
     have hms23_0 := NB198_186.out
     refine skip_ (w1 := ?_) (by rfl) rfl ?_ ?_
     rotate_left
     ·go_simp
      rfl
     refine hK.out _ _ ?_
     clear hK K
     refine done_ (done_of HT_.out KR) ?_
     try go_wp2
     go_roundg k1
     case measure => have := HK1.out; omega
     case rel => exact ⟨(wrap64 (x4_1 - 1)), (t203), (t204), (y205), (.slice Ao22 y205.length co22), (by first | rfl | (simp; done) | (simp [*]; done)), H', ⟨by have := HK1.out; omega⟩, ⟨SX (St HO_199000.out BK198) (fun _ hk => by first | exact hk.1.2 | simp_all)⟩, ⟨RX (Rt HO207.out BK198) (fun _ hk => trivial)⟩, ⟨PF BK186⟩, ⟨PX BK198⟩, ⟨PI⟩, ⟨PH⟩, ⟨PL⟩⟩
    ·rw [if_neg c18] at H
     exact absurd H (by simp)
   ·rw [if_neg c16] at H
    have c16b0 : decide (0 < x4_1) = false := decide_eq_false c16
    clear c16
    simp only [Option.some.injEq, Prod.mk.injEq] at H
    obtain ⟨rfl, rfl, rfl, rfl, rfl, rfl⟩ := H
    have hnb24 := NB198_186.out
    have hnc24 := NB186_198.out
    have hnb25 := NB198_0.out
    have hnc25 := NB0_198.out
    obtain ⟨_, _, _, _, _, _, _, _⟩ := bc4 BK198
    have hnb27 := NB186_0.out
    have hnc27 := NB0_186.out
    obtain ⟨_, _, _, _, _, _, _, _⟩ := bc4 BK186
    obtain ⟨Ao29, co29, eo29⟩ := Kd.R_slice HO_199003.out
    subst eo29
    go_wp2
    refine bodyPost_ret (results_cell_row rfl _ _ gb186 61 #[.slice Ao10 t187.length co10, .int .i64 t192, .int .i64 t195, .slice Ao29 x199003_1.length co29] (0, 0) _ rfl (PX BK186) Try.underlying61 rfl KR) rfl ?_
    exact ⟨_, _, RT, Se1 HO_199000 BK186, RX (Rt HO_199003.out BK186) (fun _ hk => trivial), PI, PL, PH⟩

/-! ### spec_l4Raw: function 123 -/
def spec_l4Raw.f (s0_0 : List Int) (s0_1 : Int) (s0_2 : Int) : Option (Int × Int × Int) := (spec_l1Int.f s0_0 s0_1 s0_2 (([(-1), 0, 9, 10, 99, 100, 9223372036854775807, (-9223372036854775808)] : List Int))).bind fun bt211 => (some (bt211.1, bt211.2.1, bt211.2.2))
set_option maxHeartbeats 8000000 in
set_option maxRecDepth 100000 in
theorem spec_l4Raw.calls (g : Nat) (s0_0 : List Int) (s0_1 : Int) (s0_2 : Int) (r1 : Int) (r2 : Int) (r3 : Int) (w0 w : World) (hI : IsS158 w0 w g s0_0 s0_1 s0_2) (hB : Below w0.heap.size w0 w) (h : spec_l4Raw.f s0_0 s0_1 s0_2 = some (r1, r2, r3)) :
  Calls Try.prog 123 #[.pointer (some ⟨g, 0, none⟩)] w fun e w' => e = .returned (.int .i64 r1) ∧ IsS158 w0 w' g s0_0 r2 r3 ∧ Below w0.heap.size w0 w' ∧ KeepBut w w' g none := by
 have HI0 := Aside0.mk hI
 have HK := ak (KeepBut.refl w g none)
 have HL := Aside0.mk hB.size
 clear hI
 have HW0 := Aside0.mk hB.size
 have HB := Aside0.mk hB
 clear hB
 have H : ((spec_l1Int.f s0_0 s0_1 s0_2 (([(-1), 0, 9, 10, 99, 100, 9223372036854775807, (-9223372036854775808)] : List Int))).bind fun bt211 => (some (bt211.1, bt211.2.1, bt211.2.2))) = some (r1, r2, r3) := h
 clear h
 obtain ⟨y208, hy208⟩ : ∃ y_ : List Int, y_ = (([(-1), 0, 9, 10, 99, 100, 9223372036854775807, (-9223372036854775808)] : List Int)) := ⟨_, rfl⟩
 replace H : ((spec_l1Int.f s0_0 s0_1 s0_2 y208).bind fun bt211 => (some (bt211.1, bt211.2.1, bt211.2.2))) = some (r1, r2, r3) := by first | (rw [hy208]; with_reducible exact H) | (have H2_ := (Option.bind_some _ _).symm.trans H; rw [hy208]; with_reducible exact H2_) | (have H2_ := (Option.bind_some _ _).symm.trans H; with_reducible exact H2_) | with_reducible exact H | (rw [hy208]; exact H) | exact H
 have Ny208 := Aside0.mk hy208
 clear hy208
 replace H := Option.bind_eq_some_iff.mp H
 obtain ⟨⟨t211, t212, t213⟩, A20, H⟩ := H
 replace H : (some (t211, t212, t213)) = some (r1, r2, r3) := H
 have A2 := Aside0.mk A20
 clear A20
 simp only [Option.some.injEq, Prod.mk.injEq] at H
 obtain ⟨rfl, rfl, rfl⟩ := H
 go_enter Try.func123, Try.ntmps123
 go_wp2_with (first | ((with_reducible refine gate_dst (N := 4) rfl ?_); refine Kd.R_lit (Kd.int .i64) _ 3 ?hg (N := 4) ?hd (xs := ([(-1), 0, 9, 10, 99, 100, 9223372036854775807, (-9223372036854775808)] : List Int)) (inner := [.int .i64 (-1), .int .i64 0, .int .i64 9, .int .i64 10, .int .i64 99, .int .i64 100, .int .i64 9223372036854775807, .int .i64 (-9223372036854775808)]) (ok := fun _ => True) (okp := fun _ => True) ?hr ?hp (fun _ hk => hk) trivial (Below.refl _ _) (Nat.le_refl _) (by simp) ?_; (case hd => rfl); (case hg => rfl); (case hr => first | (go_simp; done) | (go_simp; rfl)); (case hp => exact (Reps.one (show Kd.M (Kd.int .i64) _ _ _ (-1) [.int .i64 (-1)] from rfl) (Reps.one (show Kd.M (Kd.int .i64) _ _ _ 0 [.int .i64 0] from rfl) (Reps.one (show Kd.M (Kd.int .i64) _ _ _ 9 [.int .i64 9] from rfl) (Reps.one (show Kd.M (Kd.int .i64) _ _ _ 10 [.int .i64 10] from rfl) (Reps.one (show Kd.M (Kd.int .i64) _ _ _ 99 [.int .i64 99] from rfl) (Reps.one (show Kd.M (Kd.int .i64) _ _ _ 100 [.int .i64 100] from rfl) (Reps.one (show Kd.M (Kd.int .i64) _ _ _ 9223372036854775807 [.int .i64 9223372036854775807] from rfl) (Reps.one (show Kd.M (Kd.int .i64) _ _ _ (-9223372036854775808) [.int .i64 (-9223372036854775808)] from rfl) (Reps.none _ _)))))))))); intro v209 w3 ho4 hb hg_ hnew_; clear hg_ hnew_; (first | rw [← Ny208.out] at ho4 | (simp only [Int.reduceToNat] at ho4; rw [← Ny208.out] at ho4)); have HO210 := ak (Kd.R_lower ho4 (keep_size (w := w) (g := g) (row := none) PH)); replace HI0 := ak (IsS158.below PI hb); replace HK := ak (KeepBut.trans PH (KeepBut.of_below hb g none) (.inl rfl)); replace HB := bs HB hb; clear hb ho4; obtain ⟨Ao5, co5, eo5⟩ := Kd.R_slice HO210.out; subst eo5) | ((with_reducible refine gate_callee (f := 67) rfl ?_); refine goesL_ (some 5) rfl rfl Try.func67 KR rfl #[.pointer (some ⟨g, 0, none⟩), .slice Ao5 y208.length co5] rfl AR ?_; (with_reducible refine (spec_l1Int.calls g s0_0 s0_1 s0_2 _ _ y208 t211 t212 t213 w0 _ ?side1 ?side2 ?side3 ?side4 ?side5 A2.out).mono ?_); (case side1 => exact PI); (case side2 => exact PL); (case side3 => exact CR ((Kd.R_reads' HO210.out).2.2)); (case side4 => exact (Kd.R_reads' HO210.out).2.1); (case side5 => exact far_slice (IsS158.own_ne HI0.out HO210.out (by decide))); rintro e w6 ⟨rfl, hi, hb, hk⟩; refine ⟨_, rfl, ?_⟩; replace HO210 := Rk (IsS158.apart (show IsS158 w0 _ g s0_0 s0_1 s0_2 from PI) (PR HO210) (by decide)) hk; replace HK := kt HK hk; replace HB := ak hb; replace HI0 := ak (hi); (try clear hb); (try clear hb2); (try clear hk); (try clear hi)))
 go_ret
 exact ⟨RT, PI, PL, PH⟩

/-! ### spec_l4Any: function 121 -/
def spec_l4Any.f (s0_0 : List Int) (s0_1 : Int) (s0_2 : Int) : Option (Int × Int × Int × Int × Int) := (spec_l4Draw.f s0_0 s0_1 s0_2).bind fun bt215 => ((spec_l1Below.f s0_0 bt215.2.2.2.1 bt215.2.2.2.2 9).bind fun bt221 => (if bt221.1 = 0 then ((spec_l4Raw.f s0_0 bt221.2.1 bt221.2.2).bind fun bt224 => (some (bt224.1, bt215.2.1, bt215.2.2.1, bt224.2.1, bt224.2.2))) else (if bt221.1 = 1 then ((spec_l4Raw.f s0_0 bt221.2.1 bt221.2.2).bind fun bt227 => (some (bt215.1, bt227.1, bt215.2.2.1, bt227.2.1, bt227.2.2))) else (if bt221.1 = 2 then ((spec_l4Raw.f s0_0 bt221.2.1 bt221.2.2).bind fun bt230 => (some (bt215.1, bt215.2.1, bt230.1, bt230.2.1, bt230.2.2))) else (some (bt215.1, bt215.2.1, bt215.2.2.1, bt221.2.1, bt221.2.2))))))
set_option maxHeartbeats 8000000 in
set_option maxRecDepth 100000 in
theorem spec_l4Any.calls (g : Nat) (s0_0 : List Int) (s0_1 : Int) (s0_2 : Int) (r1 : Int) (r2 : Int) (r3 : Int) (r4 : Int) (r5 : Int) (w0 w : World) (hI : IsS158 w0 w g s0_0 s0_1 s0_2) (hB : Below w0.heap.size w0 w) (h : spec_l4Any.f s0_0 s0_1 s0_2 = some (r1, r2, r3, r4, r5)) :
  Calls Try.prog 121 #[.pointer (some ⟨g, 0, none⟩)] w fun e w' => e = .returned (.agg #[.int .i64 r1, .int .i64 r2, .int .i64 r3]) ∧ IsS158 w0 w' g s0_0 r4 r5 ∧ Below w0.heap.size w0 w' ∧ KeepBut w w' g none := by
 have hu26 := Try.underlying26
 have HI0 := Aside0.mk hI
 have HK := ak (KeepBut.refl w g none)
 have HL := Aside0.mk hB.size
 clear hI
 have HW0 := Aside0.mk hB.size
 have HB := Aside0.mk hB
 clear hB
 have H : ((spec_l4Draw.f s0_0 s0_1 s0_2).bind fun bt215 => ((spec_l1Below.f s0_0 bt215.2.2.2.1 bt215.2.2.2.2 9).bind fun bt221 => (if bt221.1 = 0 then ((spec_l4Raw.f s0_0 bt221.2.1 bt221.2.2).bind fun bt224 => (some (bt224.1, bt215.2.1, bt215.2.2.1, bt224.2.1, bt224.2.2))) else (if bt221.1 = 1 then ((spec_l4Raw.f s0_0 bt221.2.1 bt221.2.2).bind fun bt227 => (some (bt215.1, bt227.1, bt215.2.2.1, bt227.2.1, bt227.2.2))) else (if bt221.1 = 2 then ((spec_l4Raw.f s0_0 bt221.2.1 bt221.2.2).bind fun bt230 => (some (bt215.1, bt215.2.1, bt230.1, bt230.2.1, bt230.2.2))) else (some (bt215.1, bt215.2.1, bt215.2.2.1, bt221.2.1, bt221.2.2))))))) = some (r1, r2, r3, r4, r5) := h
 clear h
 replace H := Option.bind_eq_some_iff.mp H
 obtain ⟨⟨t215, t216, t217, t218, t219⟩, A20, H⟩ := H
 replace H : ((spec_l1Below.f s0_0 t218 t219 9).bind fun bt221 => (if bt221.1 = 0 then ((spec_l4Raw.f s0_0 bt221.2.1 bt221.2.2).bind fun bt224 => (some (bt224.1, t216, t217, bt224.2.1, bt224.2.2))) else (if bt221.1 = 1 then ((spec_l4Raw.f s0_0 bt221.2.1 bt221.2.2).bind fun bt227 => (some (t215, bt227.1, t217, bt227.2.1, bt227.2.2))) else (if bt221.1 = 2 then ((spec_l4Raw.f s0_0 bt221.2.1 bt221.2.2).bind fun bt230 => (some (t215, t216, bt230.1, bt230.2.1, bt230.2.2))) else (some (t215, t216, t217, bt221.2.1, bt221.2.2)))))) = some (r1, r2, r3, r4, r5) := H
 have A2 := Aside0.mk A20
 clear A20
 replace H := Option.bind_eq_some_iff.mp H
 obtain ⟨⟨t221, t222, t223⟩, A30, H⟩ := H
 replace H : (if t221 = 0 then ((spec_l4Raw.f s0_0 t222 t223).bind fun bt224 => (some (bt224.1, t216, t217, bt224.2.1, bt224.2.2))) else (if t221 = 1 then ((spec_l4Raw.f s0_0 t222 t223).bind fun bt227 => (some (t215, bt227.1, t217, bt227.2.1, bt227.2.2))) else (if t221 = 2 then ((spec_l4Raw.f s0_0 t222 t223).bind fun bt230 => (some (t215, t216, bt230.1, bt230.2.1, bt230.2.2))) else (some (t215, t216, t217, t222, t223))))) = some (r1, r2, r3, r4, r5) := H
 have A3 := Aside0.mk A30
 clear A30
 by_cases c4 : t221 = 0
 ·rw [if_pos c4] at H
  have c4b0 : (t221 == 0) = true := beq_iff_eq.mpr c4
  have c4b1 : (t221 != 0) = false := bne_eq_false_iff_eq.mpr c4
  clear c4
  replace H := Option.bind_eq_some_iff.mp H
  obtain ⟨⟨t224, t225, t226⟩, A50, H⟩ := H
  replace H : (some (t224, t216, t217, t225, t226)) = some (r1, r2, r3, r4, r5) := H
  have A5 := Aside0.mk A50
  clear A50
  simp only [Option.some.injEq, Prod.mk.injEq] at H
  obtain ⟨rfl, rfl, rfl, rfl, rfl⟩ := H
  go_enter Try.func121, Try.ntmps121
  go_wp2_with (first | ((with_reducible refine gate_dst (N := 2) rfl ?_); refine bx_ (N := 2) #[.int .i64 0, .int .i64 0, .int .i64 0] 26 ?_; intro gb214 hg w6 hbox hb; replace HB := bs HB hb; have BK214 := ak hbox; have GW214 := ak (kz hg HK); have GE214 := ak (Nat.le_trans HW0.out (kz hg HK)); replace HK := ak (KeepBut.trans PH (KeepBut.of_below hb g none) (.inl rfl)); have NB0_214 := ak (nh hg (IsS158.lt (show IsS158 w0 _ g s0_0 s0_1 s0_2 from PI))); have NB214_0 := ak (ng hg (IsS158.lt (show IsS158 w0 _ g s0_0 s0_1 s0_2 from PI))); replace HI0 := ak (IsS158.below PI hb); clear hb hbox hg) | ((with_reducible refine gate_callee (f := 128) rfl ?_); refine goesL_ (some 5) rfl rfl Try.func128 KR rfl #[.pointer (some ⟨g, 0, none⟩)] rfl AR ?_; (with_reducible refine (spec_l4Draw.calls g s0_0 s0_1 s0_2 t215 t216 t217 t218 t219 w0 _ ?side1 ?side2 A2.out).mono ?_); (case side1 => exact PI); (case side2 => exact PL); rintro e w7 ⟨rfl, hi, hb, hk⟩; refine ⟨_, rfl, ?_⟩; replace BK214 := kq hk BK214 NB214_0; replace HK := kt HK hk; replace HB := ak hb; replace HI0 := ak (hi); (try clear hb); (try clear hb2); (try clear hk); (try clear hi)) | ((with_reducible refine gate_dst (N := 3) rfl ?_); refine bx_ (N := 3) #[.int .i64 0, .int .i64 0, .int .i64 0] 26 ?_; intro gb220 hg w8 hbox hb; replace HB := bs HB hb; have BK220 := ak hbox; have GW220 := ak (kz hg HK); have GE220 := ak (Nat.le_trans HW0.out (kz hg HK)); replace HK := ak (KeepBut.trans PH (KeepBut.of_below hb g none) (.inl rfl)); have NB214_220 := gm hg BK214; have NB220_214 := gn hg BK214; replace BK214 := kf BK214 hb; have NB0_220 := ak (nh hg (IsS158.lt (show IsS158 w0 _ g s0_0 t218 t219 from PI))); have NB220_0 := ak (ng hg (IsS158.lt (show IsS158 w0 _ g s0_0 t218 t219 from PI))); replace HI0 := ak (IsS158.below PI hb); clear hb hbox hg; have hnb9 := NB220_214.out; have hnc9 := NB214_220.out; have hnb10 := NB220_0.out; have hnc10 := NB0_220.out; obtain ⟨hcz11_0, hcz11_1, hcz11_2, hfz11_0, hfz11_1, hfz11_2⟩ := bc3 BK220) | ((with_reducible refine gate_callee (f := 68) rfl ?_); refine goesL_ (some 7) rfl rfl Try.func68 KR rfl #[.pointer (some ⟨g, 0, none⟩), .int .i64 9] rfl AR ?_; (with_reducible refine (spec_l1Below.calls g s0_0 t218 t219 9 t221 t222 t223 w0 _ ?side1 ?side2 A3.out).mono ?_); (case side1 => exact PI); (case side2 => exact PL); rintro e w12 ⟨rfl, hi, hb, hk⟩; refine ⟨_, rfl, ?_⟩; replace BK214 := kq hk BK214 NB214_0; replace BK220 := kr (cs' := #[.int .i64 t215, .int .i64 t216, .int .i64 t217]) hk BK220 NB220_0; replace HK := kt HK hk; replace HB := ak hb; replace HI0 := ak (hi); (try clear hb); (try clear hb2); (try clear hk); (try clear hi)) | ((with_reducible refine gate_callee (f := 123) rfl ?_); refine goesL_ (some 11) rfl rfl Try.func123 KR rfl #[.pointer (some ⟨g, 0, none⟩)] rfl AR ?_; (with_reducible refine (spec_l4Raw.calls g s0_0 t222 t223 t224 t225 t226 w0 _ ?side1 ?side2 A5.out).mono ?_); (case side1 => exact PI); (case side2 => exact PL); rintro e w13 ⟨rfl, hi, hb, hk⟩; refine ⟨_, rfl, ?_⟩; replace BK214 := kq hk BK214 NB214_0; replace BK220 := kq hk BK220 NB220_0; replace HK := kt HK hk; replace HB := ak hb; replace HI0 := ak (hi); (try clear hb); (try clear hb2); (try clear hk); (try clear hi); obtain ⟨hcz14_0, hcz14_1, hcz14_2, hfz14_0, hfz14_1, hfz14_2⟩ := bc3 BK220; have hnb15 := NB214_0.out; have hnc15 := NB0_214.out; obtain ⟨_, _, _, _, _, _⟩ := bc3 BK214))
  refine bodyPost_ret (results_cell_row rfl _ _ gb214 26 #[.int .i64 t224, .int .i64 t216, .int .i64 t217] (0, 0) _ rfl (PX BK214) Try.underlying26 rfl KR) rfl ?_
  exact ⟨RT, PI, PL, PH⟩
 ·rw [if_neg c4] at H
  have c4b0 : (t221 == 0) = false := beq_eq_false_iff_ne.mpr c4
  have c4b1 : (t221 != 0) = true := bne_iff_ne.mpr c4
  by_cases c17 : t221 = 1
  ·rw [if_pos c17] at H
   have c17b0 : (t221 == 1) = true := beq_iff_eq.mpr c17
   have c17b1 : (t221 != 1) = false := bne_eq_false_iff_eq.mpr c17
   clear c17
   replace H := Option.bind_eq_some_iff.mp H
   obtain ⟨⟨t227, t228, t229⟩, A180, H⟩ := H
   replace H : (some (t215, t227, t217, t228, t229)) = some (r1, r2, r3, r4, r5) := H
   have A18 := Aside0.mk A180
   clear A180
   simp only [Option.some.injEq, Prod.mk.injEq] at H
   obtain ⟨rfl, rfl, rfl, rfl, rfl⟩ := H
   go_enter Try.func121, Try.ntmps121
   go_wp2_with (first | ((with_reducible refine gate_dst (N := 2) rfl ?_); refine bx_ (N := 2) #[.int .i64 0, .int .i64 0, .int .i64 0] 26 ?_; intro gb214 hg w19 hbox hb; replace HB := bs HB hb; have BK214 := ak hbox; have GW214 := ak (kz hg HK); have GE214 := ak (Nat.le_trans HW0.out (kz hg HK)); replace HK := ak (KeepBut.trans PH (KeepBut.of_below hb g none) (.inl rfl)); have NB0_214 := ak (nh hg (IsS158.lt (show IsS158 w0 _ g s0_0 s0_1 s0_2 from PI))); have NB214_0 := ak (ng hg (IsS158.lt (show IsS158 w0 _ g s0_0 s0_1 s0_2 from PI))); replace HI0 := ak (IsS158.below PI hb); clear hb hbox hg) | ((with_reducible refine gate_callee (f := 128) rfl ?_); refine goesL_ (some 5) rfl rfl Try.func128 KR rfl #[.pointer (some ⟨g, 0, none⟩)] rfl AR ?_; (with_reducible refine (spec_l4Draw.calls g s0_0 s0_1 s0_2 t215 t216 t217 t218 t219 w0 _ ?side1 ?side2 A2.out).mono ?_); (case side1 => exact PI); (case side2 => exact PL); rintro e w20 ⟨rfl, hi, hb, hk⟩; refine ⟨_, rfl, ?_⟩; replace BK214 := kq hk BK214 NB214_0; replace HK := kt HK hk; replace HB := ak hb; replace HI0 := ak (hi); (try clear hb); (try clear hb2); (try clear hk); (try clear hi)) | ((with_reducible refine gate_dst (N := 3) rfl ?_); refine bx_ (N := 3) #[.int .i64 0, .int .i64 0, .int .i64 0] 26 ?_; intro gb220 hg w21 hbox hb; replace HB := bs HB hb; have BK220 := ak hbox; have GW220 := ak (kz hg HK); have GE220 := ak (Nat.le_trans HW0.out (kz hg HK)); replace HK := ak (KeepBut.trans PH (KeepBut.of_below hb g none) (.inl rfl)); have NB214_220 := gm hg BK214; have NB220_214 := gn hg BK214; replace BK214 := kf BK214 hb; have NB0_220 := ak (nh hg (IsS158.lt (show IsS158 w0 _ g s0_0 t218 t219 from PI))); have NB220_0 := ak (ng hg (IsS158.lt (show IsS158 w0 _ g s0_0 t218 t219 from PI))); replace HI0 := ak (IsS158.below PI hb); clear hb hbox hg; have hnb22 := NB220_214.out; have hnc22 := NB214_220.out; have hnb23 := NB220_0.out; have hnc23 := NB0_220.out; obtain ⟨_, _, _, _, _, _⟩ := bc3 BK220) | ((with_reducible refine gate_callee (f := 68) rfl ?_); refine goesL_ (some 7) rfl rfl Try.func68 KR rfl #[.pointer (some ⟨g, 0, none⟩), .int .i64 9] rfl AR ?_; (with_reducible refine (spec_l1Below.calls g s0_0 t218 t219 9 t221 t222 t223 w0 _ ?side1 ?side2 A3.out).mono ?_); (case side1 => exact PI); (case side2 => exact PL); rintro e w25 ⟨rfl, hi, hb, hk⟩; refine ⟨_, rfl, ?_⟩; replace BK214 := kq hk BK214 NB214_0; replace BK220 := kr (cs' := #[.int .i64 t215, .int .i64 t216, .int .i64 t217]) hk BK220 NB220_0; replace HK := kt HK hk; replace HB := ak hb; replace HI0 := ak (hi); (try clear hb); (try clear hb2); (try clear hk); (try clear hi)) | ((with_reducible refine gate_callee (f := 123) rfl ?_); refine goesL_ (some 16) rfl rfl Try.func123 KR rfl #[.pointer (some ⟨g, 0, none⟩)] rfl AR ?_; (with_reducible refine (spec_l4Raw.calls g s0_0 t222 t223 t227 t228 t229 w0 _ ?side1 ?side2 A18.out).mono ?_); (case side1 => exact PI); (case side2 => exact PL); rintro e w26 ⟨rfl, hi, hb, hk⟩; refine ⟨_, rfl, ?_⟩; replace BK214 := kq hk BK214 NB214_0; replace BK220 := kq hk BK220 NB220_0; replace HK := kt HK hk; replace HB := ak hb; replace HI0 := ak (hi); (try clear hb); (try clear hb2); (try clear hk); (try clear hi); obtain ⟨_, _, _, _, _, _⟩ := bc3 BK220; have hnb28 := NB214_0.out; have hnc28 := NB0_214.out; obtain ⟨hcz29_0, hcz29_1, hcz29_2, hfz29_0, hfz29_1, hfz29_2⟩ := bc3 BK214))
   refine bodyPost_ret (results_cell_row rfl _ _ gb214 26 #[.int .i64 t215, .int .i64 t227, .int .i64 t217] (0, 0) _ rfl (PX BK214) Try.underlying26 rfl KR) rfl ?_
   exact ⟨RT, PI, PL, PH⟩
  ·rw [if_neg c17] at H
   have c17b0 : (t221 == 1) = false := beq_eq_false_iff_ne.mpr c17
   have c17b1 : (t221 != 1) = true := bne_iff_ne.mpr c17
   by_cases c30 : t221 = 2
   ·rw [if_pos c30] at H
    have c30b0 : (t221 == 2) = true := beq_iff_eq.mpr c30
    have c30b1 : (t221 != 2) = false := bne_eq_false_iff_eq.mpr c30
    clear c30
    replace H := Option.bind_eq_some_iff.mp H
    obtain ⟨⟨t230, t231, t232⟩, A310, H⟩ := H
    replace H : (some (t215, t216, t230, t231, t232)) = some (r1, r2, r3, r4, r5) := H
    have A31 := Aside0.mk A310
    clear A310
    simp only [Option.some.injEq, Prod.mk.injEq] at H
    obtain ⟨rfl, rfl, rfl, rfl, rfl⟩ := H
    go_enter Try.func121, Try.ntmps121
    go_wp2_with (first | ((with_reducible refine gate_dst (N := 2) rfl ?_); refine bx_ (N := 2) #[.int .i64 0, .int .i64 0, .int .i64 0] 26 ?_; intro gb214 hg w32 hbox hb; replace HB := bs HB hb; have BK214 := ak hbox; have GW214 := ak (kz hg HK); have GE214 := ak (Nat.le_trans HW0.out (kz hg HK)); replace HK := ak (KeepBut.trans PH (KeepBut.of_below hb g none) (.inl rfl)); have NB0_214 := ak (nh hg (IsS158.lt (show IsS158 w0 _ g s0_0 s0_1 s0_2 from PI))); have NB214_0 := ak (ng hg (IsS158.lt (show IsS158 w0 _ g s0_0 s0_1 s0_2 from PI))); replace HI0 := ak (IsS158.below PI hb); clear hb hbox hg) | ((with_reducible refine gate_callee (f := 128) rfl ?_); refine goesL_ (some 5) rfl rfl Try.func128 KR rfl #[.pointer (some ⟨g, 0, none⟩)] rfl AR ?_; (with_reducible refine (spec_l4Draw.calls g s0_0 s0_1 s0_2 t215 t216 t217 t218 t219 w0 _ ?side1 ?side2 A2.out).mono ?_); (case side1 => exact PI); (case side2 => exact PL); rintro e w33 ⟨rfl, hi, hb, hk⟩; refine ⟨_, rfl, ?_⟩; replace BK214 := kq hk BK214 NB214_0; replace HK := kt HK hk; replace HB := ak hb; replace HI0 := ak (hi); (try clear hb); (try clear hb2); (try clear hk); (try clear hi)) | ((with_reducible refine gate_dst (N := 3) rfl ?_); refine bx_ (N := 3) #[.int .i64 0, .int .i64 0, .int .i64 0] 26 ?_; intro gb220 hg w34 hbox hb; replace HB := bs HB hb; have BK220 := ak hbox; have GW220 := ak (kz hg HK); have GE220 := ak (Nat.le_trans HW0.out (kz hg HK)); replace HK := ak (KeepBut.trans PH (KeepBut.of_below hb g none) (.inl rfl)); have NB214_220 := gm hg BK214; have NB220_214 := gn hg BK214; replace BK214 := kf BK214 hb; have NB0_220 := ak (nh hg (IsS158.lt (show IsS158 w0 _ g s0_0 t218 t219 from PI))); have NB220_0 := ak (ng hg (IsS158.lt (show IsS158 w0 _ g s0_0 t218 t219 from PI))); replace HI0 := ak (IsS158.below PI hb); clear hb hbox hg; have hnb35 := NB220_214.out; have hnc35 := NB214_220.out; have hnb36 := NB220_0.out; have hnc36 := NB0_220.out; obtain ⟨_, _, _, _, _, _⟩ := bc3 BK220) | ((with_reducible refine gate_callee (f := 68) rfl ?_); refine goesL_ (some 7) rfl rfl Try.func68 KR rfl #[.pointer (some ⟨g, 0, none⟩), .int .i64 9] rfl AR ?_; (with_reducible refine (spec_l1Below.calls g s0_0 t218 t219 9 t221 t222 t223 w0 _ ?side1 ?side2 A3.out).mono ?_); (case side1 => exact PI); (case side2 => exact PL); rintro e w38 ⟨rfl, hi, hb, hk⟩; refine ⟨_, rfl, ?_⟩; replace BK214 := kq hk BK214 NB214_0; replace BK220 := kr (cs' := #[.int .i64 t215, .int .i64 t216, .int .i64 t217]) hk BK220 NB220_0; replace HK := kt HK hk; replace HB := ak hb; replace HI0 := ak (hi); (try clear hb); (try clear hb2); (try clear hk); (try clear hi)) | ((with_reducible refine gate_callee (f := 123) rfl ?_); refine goesL_ (some 21) rfl rfl Try.func123 KR rfl #[.pointer (some ⟨g, 0, none⟩)] rfl AR ?_; (with_reducible refine (spec_l4Raw.calls g s0_0 t222 t223 t230 t231 t232 w0 _ ?side1 ?side2 A31.out).mono ?_); (case side1 => exact PI); (case side2 => exact PL); rintro e w39 ⟨rfl, hi, hb, hk⟩; refine ⟨_, rfl, ?_⟩; replace BK214 := kq hk BK214 NB214_0; replace BK220 := kq hk BK220 NB220_0; replace HK := kt HK hk; replace HB := ak hb; replace HI0 := ak (hi); (try clear hb); (try clear hb2); (try clear hk); (try clear hi); obtain ⟨hcz40_0, hcz40_1, hcz40_2, hfz40_0, hfz40_1, hfz40_2⟩ := bc3 BK220; have hnb41 := NB214_0.out; have hnc41 := NB0_214.out; obtain ⟨hcz42_0, hcz42_1, hcz42_2, hfz42_0, hfz42_1, hfz42_2⟩ := bc3 BK214))
    refine bodyPost_ret (results_cell_row rfl _ _ gb214 26 #[.int .i64 t215, .int .i64 t216, .int .i64 t230] (0, 0) _ rfl (PX BK214) Try.underlying26 rfl KR) rfl ?_
    exact ⟨RT, PI, PL, PH⟩
   ·rw [if_neg c30] at H
    have c30b0 : (t221 == 2) = false := beq_eq_false_iff_ne.mpr c30
    have c30b1 : (t221 != 2) = true := bne_iff_ne.mpr c30
    simp only [Option.some.injEq, Prod.mk.injEq] at H
    obtain ⟨rfl, rfl, rfl, rfl, rfl⟩ := H
    go_enter Try.func121, Try.ntmps121
    go_wp2_with (first | ((with_reducible refine gate_dst (N := 2) rfl ?_); refine bx_ (N := 2) #[.int .i64 0, .int .i64 0, .int .i64 0] 26 ?_; intro gb214 hg w43 hbox hb; replace HB := bs HB hb; have BK214 := ak hbox; have GW214 := ak (kz hg HK); have GE214 := ak (Nat.le_trans HW0.out (kz hg HK)); replace HK := ak (KeepBut.trans PH (KeepBut.of_below hb g none) (.inl rfl)); have NB0_214 := ak (nh hg (IsS158.lt (show IsS158 w0 _ g s0_0 s0_1 s0_2 from PI))); have NB214_0 := ak (ng hg (IsS158.lt (show IsS158 w0 _ g s0_0 s0_1 s0_2 from PI))); replace HI0 := ak (IsS158.below PI hb); clear hb hbox hg) | ((with_reducible refine gate_callee (f := 128) rfl ?_); refine goesL_ (some 5) rfl rfl Try.func128 KR rfl #[.pointer (some ⟨g, 0, none⟩)] rfl AR ?_; (with_reducible refine (spec_l4Draw.calls g s0_0 s0_1 s0_2 t215 t216 t217 t218 t219 w0 _ ?side1 ?side2 A2.out).mono ?_); (case side1 => exact PI); (case side2 => exact PL); rintro e w44 ⟨rfl, hi, hb, hk⟩; refine ⟨_, rfl, ?_⟩; replace BK214 := kq hk BK214 NB214_0; replace HK := kt HK hk; replace HB := ak hb; replace HI0 := ak (hi); (try clear hb); (try clear hb2); (try clear hk); (try clear hi)) | ((with_reducible refine gate_dst (N := 3) rfl ?_); refine bx_ (N := 3) #[.int .i64 0, .int .i64 0, .int .i64 0] 26 ?_; intro gb220 hg w45 hbox hb; replace HB := bs HB hb; have BK220 := ak hbox; have GW220 := ak (kz hg HK); have GE220 := ak (Nat.le_trans HW0.out (kz hg HK)); replace HK := ak (KeepBut.trans PH (KeepBut.of_below hb g none) (.inl rfl)); have NB214_220 := gm hg BK214; have NB220_214 := gn hg BK214; replace BK214 := kf BK214 hb; have NB0_220 := ak (nh hg (IsS158.lt (show IsS158 w0 _ g s0_0 t218 t219 from PI))); have NB220_0 := ak (ng hg (IsS158.lt (show IsS158 w0 _ g s0_0 t218 t219 from PI))); replace HI0 := ak (IsS158.below PI hb); clear hb hbox hg; have hnb46 := NB220_214.out; have hnc46 := NB214_220.out; have hnb47 := NB220_0.out; have hnc47 := NB0_220.out; obtain ⟨_, _, _, _, _, _⟩ := bc3 BK220) | ((with_reducible refine gate_callee (f := 68) rfl ?_); refine goesL_ (some 7) rfl rfl Try.func68 KR rfl #[.pointer (some ⟨g, 0, none⟩), .int .i64 9] rfl AR ?_; (with_reducible refine (spec_l1Below.calls g s0_0 t218 t219 9 t221 t222 t223 w0 _ ?side1 ?side2 A3.out).mono ?_); (case side1 => exact PI); (case side2 => exact PL); rintro e w49 ⟨rfl, hi, hb, hk⟩; refine ⟨_, rfl, ?_⟩; replace BK214 := kq hk BK214 NB214_0; replace BK220 := kr (cs' := #[.int .i64 t215, .int .i64 t216, .int .i64 t217]) hk BK220 NB220_0; replace HK := kt HK hk; replace HB := ak hb; replace HI0 := ak (hi); (try clear hb); (try clear hb2); (try clear hk); (try clear hi); obtain ⟨_, _, _, _, _, _⟩ := bc3 BK220; have hnb51 := NB214_0.out; have hnc51 := NB0_214.out; obtain ⟨_, _, _, _, _, _⟩ := bc3 BK214))
    refine bodyPost_ret (results_cell_row rfl _ _ gb214 26 #[.int .i64 t215, .int .i64 t216, .int .i64 t217] (0, 0) _ rfl (PX BK214) Try.underlying26 rfl KR) rfl ?_
    exact ⟨RT, PI, PL, PH⟩

/-! ### spec_l5Any: function 142 -/
def spec_l5Any.f (k : Nat) (s0_0 : List Int) (s0_1 : Int) (s0_2 : Int) : Option (Int × List Int × Int × Int × Int × Int × Int) := (spec_l5Draw.f k s0_0 s0_1 s0_2).bind fun bt234 => ((spec_l1Below.f s0_0 bt234.2.2.2.2.2.1 bt234.2.2.2.2.2.2 9).bind fun bt244 => (if bt244.1 = 0 then ((spec_l1Int.f s0_0 bt244.2.1 bt244.2.2 (([0, 5, 3, 4] : List Int))).bind fun bt250 => (some (bt250.1, bt234.2.1, bt234.2.2.1, bt234.2.2.2.1, bt234.2.2.2.2.1, bt250.2.1, bt250.2.2))) else (if bt244.1 = 1 then ((spec_l1Int.f s0_0 bt244.2.1 bt244.2.2 (([(-1), 255, 256] : List Int))).bind fun bt256 => (if bt234.2.1.length < 17592186044416 then (some (bt234.1, (bt234.2.1 ++ [bt256.1]), bt234.2.2.1, bt234.2.2.2.1, bt234.2.2.2.2.1, bt256.2.1, bt256.2.2)) else (none))) else (if bt244.1 = 2 then (some (bt234.1, (([1, 2, 3, 4, 5, 6, 7] : List Int)), bt234.2.2.1, bt234.2.2.2.1, bt234.2.2.2.2.1, bt244.2.1, bt244.2.2)) else (if bt244.1 = 3 then ((spec_l4Any.f s0_0 bt244.2.1 bt244.2.2).bind fun bt265 => (some (bt234.1, bt234.2.1, bt265.1, bt265.2.1, bt265.2.2.1, bt265.2.2.2.1, bt265.2.2.2.2))) else (some (bt234.1, bt234.2.1, bt234.2.2.1, bt234.2.2.2.1, bt234.2.2.2.2.1, bt244.2.1, bt244.2.2)))))))
def spec_l5Any.T6 : Bool × List (List Nat × List Nat) := (true, [([], []), ([0], [0]), ([], []), ([], []), ([2, 3], [2, 3]), ([4], [4]), ([1, 5, 4], [1, 5]), ([0, 1, 2, 3, 4, 5, 6], []), ([7, 6, 6, 0, 1, 2, 3, 4, 5, 6], [6, 7])])
def spec_l5Any.B6 : List Nat := [0, 1, 0, 0, 12, 28, 63, 127, 255]
theorem spec_l5Any.tab6 : rtab .any (opsOf Try.f142 6) = spec_l5Any.T6 := by kernel_rfl
theorem spec_l5Any.bits6 : waitsOk spec_l5Any.T6.2 spec_l5Any.B6 = true := by kernel_rfl
set_option maxHeartbeats 8000000 in
set_option maxRecDepth 100000 in
theorem spec_l5Any.calls (k : Nat) (g : Nat) (s0_0 : List Int) (s0_1 : Int) (s0_2 : Int) (r1 : Int) (r2 : List Int) (r3 : Int) (r4 : Int) (r5 : Int) (r6 : Int) (r7 : Int) (w0 w : World) (hI : IsS158 w0 w g s0_0 s0_1 s0_2) (hB : Below w0.heap.size w0 w) (h : spec_l5Any.f k s0_0 s0_1 s0_2 = some (r1, r2, r3, r4, r5, r6, r7)) :
  Calls Try.prog 142 #[.pointer (some ⟨g, 0, none⟩)] w fun e w' => ∃ v1_ : Value, e = .returned (.agg #[.int .i64 r1, v1_, .int .i64 r3, .int .i64 r4, .int .i64 r5]) ∧ Kd.R (Kd.int .i64) 3 w' w.heap.size (fun _ => True) v1_ r2 ∧ IsS158 w0 w' g s0_0 r6 r7 ∧ Below w0.heap.size w0 w' ∧ KeepBut w w' g none := by
 have hu38 := Try.underlying38
 have hu26 := Try.underlying26
 have HI0 := Aside0.mk hI
 have HK := ak (KeepBut.refl w g none)
 have HL := Aside0.mk hB.size
 clear hI
 have HW0 := Aside0.mk hB.size
 have HB := Aside0.mk hB
 clear hB
 have H : ((spec_l5Draw.f k s0_0 s0_1 s0_2).bind fun bt234 => ((spec_l1Below.f s0_0 bt234.2.2.2.2.2.1 bt234.2.2.2.2.2.2 9).bind fun bt244 => (if bt244.1 = 0 then ((spec_l1Int.f s0_0 bt244.2.1 bt244.2.2 (([0, 5, 3, 4] : List Int))).bind fun bt250 => (some (bt250.1, bt234.2.1, bt234.2.2.1, bt234.2.2.2.1, bt234.2.2.2.2.1, bt250.2.1, bt250.2.2))) else (if bt244.1 = 1 then ((spec_l1Int.f s0_0 bt244.2.1 bt244.2.2 (([(-1), 255, 256] : List Int))).bind fun bt256 => (if bt234.2.1.length < 17592186044416 then (some (bt234.1, (bt234.2.1 ++ [bt256.1]), bt234.2.2.1, bt234.2.2.2.1, bt234.2.2.2.2.1, bt256.2.1, bt256.2.2)) else (none))) else (if bt244.1 = 2 then (some (bt234.1, (([1, 2, 3, 4, 5, 6, 7] : List Int)), bt234.2.2.1, bt234.2.2.2.1, bt234.2.2.2.2.1, bt244.2.1, bt244.2.2)) else (if bt244.1 = 3 then ((spec_l4Any.f s0_0 bt244.2.1 bt244.2.2).bind fun bt265 => (some (bt234.1, bt234.2.1, bt265.1, bt265.2.1, bt265.2.2.1, bt265.2.2.2.1, bt265.2.2.2.2))) else (some (bt234.1, bt234.2.1, bt234.2.2.1, bt234.2.2.2.1, bt234.2.2.2.2.1, bt244.2.1, bt244.2.2)))))))) = some (r1, r2, r3, r4, r5, r6, r7) := h
 clear h
 replace H := Option.bind_eq_some_iff.mp H
 obtain ⟨⟨t234, t235, t238, t239, t240, t241, t242⟩, A20, H⟩ := H
 replace H : ((spec_l1Below.f s0_0 t241 t242 9).bind fun bt244 => (if bt244.1 = 0 then ((spec_l1Int.f s0_0 bt244.2.1 bt244.2.2 (([0, 5, 3, 4] : List Int))).bind fun bt250 => (some (bt250.1, t235, t238, t239, t240, bt250.2.1, bt250.2.2))) else (if bt244.1 = 1 then ((spec_l1Int.f s0_0 bt244.2.1 bt244.2.2 (([(-1), 255, 256] : List Int))).bind fun bt256 => (if t235.length < 17592186044416 then (some (t234, (t235 ++ [bt256.1]), t238, t239, t240, bt256.2.1, bt256.2.2)) else (none))) else (if bt244.1 = 2 then (some (t234, (([1, 2, 3, 4, 5, 6, 7] : List Int)), t238, t239, t240, bt244.2.1, bt244.2.2)) else (if bt244.1 = 3 then ((spec_l4Any.f s0_0 bt244.2.1 bt244.2.2).bind fun bt265 => (some (t234, t235, bt265.1, bt265.2.1, bt265.2.2.1, bt265.2.2.2.1, bt265.2.2.2.2))) else (some (t234, t235, t238, t239, t240, bt244.2.1, bt244.2.2))))))) = some (r1, r2, r3, r4, r5, r6, r7) := H
 have A2 := Aside0.mk A20
 clear A20
 replace H := Option.bind_eq_some_iff.mp H
 obtain ⟨⟨t244, t245, t246⟩, A30, H⟩ := H
 replace H : (if t244 = 0 then ((spec_l1Int.f s0_0 t245 t246 (([0, 5, 3, 4] : List Int))).bind fun bt250 => (some (bt250.1, t235, t238, t239, t240, bt250.2.1, bt250.2.2))) else (if t244 = 1 then ((spec_l1Int.f s0_0 t245 t246 (([(-1), 255, 256] : List Int))).bind fun bt256 => (if t235.length < 17592186044416 then (some (t234, (t235 ++ [bt256.1]), t238, t239, t240, bt256.2.1, bt256.2.2)) else (none))) else (if t244 = 2 then (some (t234, (([1, 2, 3, 4, 5, 6, 7] : List Int)), t238, t239, t240, t245, t246)) else (if t244 = 3 then ((spec_l4Any.f s0_0 t245 t246).bind fun bt265 => (some (t234, t235, bt265.1, bt265.2.1, bt265.2.2.1, bt265.2.2.2.1, bt265.2.2.2.2))) else (some (t234, t235, t238, t239, t240, t245, t246)))))) = some (r1, r2, r3, r4, r5, r6, r7) := H
 have A3 := Aside0.mk A30
 clear A30
 by_cases c4 : t244 = 0
 ·rw [if_pos c4] at H
  have c4b0 : (t244 == 0) = true := beq_iff_eq.mpr c4
  have c4b1 : (t244 != 0) = false := bne_eq_false_iff_eq.mpr c4
  clear c4
  obtain ⟨y247, hy247⟩ : ∃ y_ : List Int, y_ = (([0, 5, 3, 4] : List Int)) := ⟨_, rfl⟩
  replace H : ((spec_l1Int.f s0_0 t245 t246 y247).bind fun bt250 => (some (bt250.1, t235, t238, t239, t240, bt250.2.1, bt250.2.2))) = some (r1, r2, r3, r4, r5, r6, r7) := by first | (rw [hy247]; with_reducible exact H) | (have H2_ := (Option.bind_some _ _).symm.trans H; rw [hy247]; with_reducible exact H2_) | (have H2_ := (Option.bind_some _ _).symm.trans H; with_reducible exact H2_) | with_reducible exact H | (rw [hy247]; exact H) | exact H
  have Ny247 := Aside0.mk hy247
  clear hy247
  replace H := Option.bind_eq_some_iff.mp H
  obtain ⟨⟨t250, t251, t252⟩, A50, H⟩ := H
  replace H : (some (t250, t235, t238, t239, t240, t251, t252)) = some (r1, r2, r3, r4, r5, r6, r7) := H
  have A5 := Aside0.mk A50
  clear A50
  simp only [Option.some.injEq, Prod.mk.injEq] at H
  obtain ⟨rfl, rfl, rfl, rfl, rfl, rfl, rfl⟩ := H
  go_enter Try.func142, Try.ntmps142
  go_wp2_with (first | ((with_reducible refine gate_dst (N := 2) rfl ?_); refine bx_ (N := 2) #[.int .i64 0, .slice none 0 0, .int .i64 0, .int .i64 0, .int .i64 0] 38 ?_; intro gb233 hg w6 hbox hb; replace HB := bs HB hb; have BK233 := ak hbox; have GW233 := ak (kz hg HK); have GE233 := ak (Nat.le_trans HW0.out (kz hg HK)); replace HK := ak (KeepBut.trans PH (KeepBut.of_below hb g none) (.inl rfl)); have NB0_233 := ak (nh hg (IsS158.lt (show IsS158 w0 _ g s0_0 s0_1 s0_2 from PI))); have NB233_0 := ak (ng hg (IsS158.lt (show IsS158 w0 _ g s0_0 s0_1 s0_2 from PI))); replace HI0 := ak (IsS158.below PI hb); clear hb hbox hg) | ((with_reducible refine gate_callee (f := 150) rfl ?_); refine goesL_ (some 5) rfl rfl Try.func150 KR rfl #[.pointer (some ⟨g, 0, none⟩)] rfl AR ?_; (with_reducible refine (spec_l5Draw.calls k g s0_0 s0_1 s0_2 t234 t235 t238 t239 t240 t241 t242 w0 _ ?side1 ?side2 A2.out).mono ?_); (case side1 => exact PI); (case side2 => exact PL); rintro e w7 ⟨v236, rfl, ho0, hi, hb, hk⟩; refine ⟨_, rfl, ?_⟩; replace BK233 := kq hk BK233 NB233_0; have HO237 := ak (Kd.R_lower ho0 (keep_size (w := w) (g := g) (row := none) PH)); replace HK := kt HK hk; replace HB := ak hb; replace HI0 := ak (hi); (try clear hb); (try clear hb2); (try clear hk); (try clear hi); (try clear ho0)) | ((with_reducible refine gate_dst (N := 3) rfl ?_); refine bx_ (N := 3) #[.int .i64 0, .slice none 0 0, .int .i64 0, .int .i64 0, .int .i64 0] 38 ?_; intro gb243 hg w8 hbox hb; replace HO237 := Rb HO237 hb; replace HB := bs HB hb; have BK243 := ak hbox; have GW243 := ak (kz hg HK); have GE243 := ak (Nat.le_trans HW0.out (kz hg HK)); replace HK := ak (KeepBut.trans PH (KeepBut.of_below hb g none) (.inl rfl)); have NB233_243 := gm hg BK233; have NB243_233 := gn hg BK233; replace BK233 := kf BK233 hb; have NB0_243 := ak (nh hg (IsS158.lt (show IsS158 w0 _ g s0_0 t241 t242 from PI))); have NB243_0 := ak (ng hg (IsS158.lt (show IsS158 w0 _ g s0_0 t241 t242 from PI))); replace HI0 := ak (IsS158.below PI hb); clear hb hbox hg; have hnb9 := NB243_233.out; have hnc9 := NB233_243.out; have hnb10 := NB243_0.out; have hnc10 := NB0_243.out; obtain ⟨hcz11_0, hcz11_1, hcz11_2, _, _, hfz11_0, hfz11_1, hfz11_2, _, _⟩ := bc5 BK243; obtain ⟨Ao12, co12, eo12⟩ := Kd.R_slice HO237.out; subst eo12) | ((with_reducible refine gate_callee (f := 68) rfl ?_); refine goesL_ (some 7) rfl rfl Try.func68 KR rfl #[.pointer (some ⟨g, 0, none⟩), .int .i64 9] rfl AR ?_; (with_reducible refine (spec_l1Below.calls g s0_0 t241 t242 9 t244 t245 t246 w0 _ ?side1 ?side2 A3.out).mono ?_); (case side1 => exact PI); (case side2 => exact PL); rintro e w13 ⟨rfl, hi, hb, hk⟩; refine ⟨_, rfl, ?_⟩; replace BK233 := kq hk BK233 NB233_0; replace HO237 := Rk (IsS158.apart (show IsS158 w0 _ g s0_0 t241 t242 from PI) (Re1 HO237 BK243) (by decide)) hk; replace BK243 := kr (cs' := #[.int .i64 t234, .slice Ao12 t235.length co12, .int .i64 t238, .int .i64 t239, .int .i64 t240]) hk BK243 NB243_0; replace HK := kt HK hk; replace HB := ak hb; replace HI0 := ak (hi); (try clear hb); (try clear hb2); (try clear hk); (try clear hi)) | ((with_reducible refine gate_dst (N := 11) rfl ?_); refine Kd.R_lit (Kd.int .i64) _ 3 ?hg (N := 11) ?hd (xs := ([0, 5, 3, 4] : List Int)) (inner := [.int .i64 0, .int .i64 5, .int .i64 3, .int .i64 4]) (ok := fun _ => True) (okp := fun _ => True) ?hr ?hp (fun _ hk => hk) trivial (Below.refl _ _) (Nat.le_refl _) (by simp) ?_; (case hd => rfl); (case hg => rfl); (case hr => first | (go_simp; done) | (go_simp; rfl)); (case hp => exact (Reps.one (show Kd.M (Kd.int .i64) _ _ _ 0 [.int .i64 0] from rfl) (Reps.one (show Kd.M (Kd.int .i64) _ _ _ 5 [.int .i64 5] from rfl) (Reps.one (show Kd.M (Kd.int .i64) _ _ _ 3 [.int .i64 3] from rfl) (Reps.one (show Kd.M (Kd.int .i64) _ _ _ 4 [.int .i64 4] from rfl) (Reps.none _ _)))))); intro v248 w14 ho15 hb hg_ hnew_; clear hg_ hnew_; (first | rw [← Ny247.out] at ho15 | (simp only [Int.reduceToNat] at ho15; rw [← Ny247.out] at ho15)); have HO249 := ak (Kd.R_lower (Kd.R_new' ho15 (Kd.R_lt (PR HO237))) (keep_size (w := w) (g := g) (row := none) PH)); replace HO237 := ak (Kd.R_elder' (PR HO237) (Kd.R_base ho15) hb); replace HI0 := ak (IsS158.below PI hb); replace BK233 := kf BK233 hb; replace BK243 := kf BK243 hb; replace HK := ak (KeepBut.trans PH (KeepBut.of_below hb g none) (.inl rfl)); replace HB := bs HB hb; clear hb ho15; obtain ⟨Ao16, co16, eo16⟩ := Kd.R_slice HO249.out; subst eo16) | ((with_reducible refine gate_callee (f := 67) rfl ?_); refine goesL_ (some 12) rfl rfl Try.func67 KR rfl #[.pointer (some ⟨g, 0, none⟩), .slice Ao16 y247.length co16] rfl AR ?_; (with_reducible refine (spec_l1Int.calls g s0_0 t245 t246 _ _ y247 t250 t251 t252 w0 _ ?side1 ?side2 ?side3 ?side4 ?side5 A5.out).mono ?_); (case side1 => exact PI); (case side2 => exact PL); (case side3 => exact CR ((Kd.R_reads' HO249.out).2.2)); (case side4 => exact (Kd.R_reads' HO249.out).2.1); (case side5 => exact far_slice (IsS158.own_ne HI0.out HO249.out (by decide))); rintro e w17 ⟨rfl, hi, hb, hk⟩; refine ⟨_, rfl, ?_⟩; replace BK233 := kq hk BK233 NB233_0; replace HO237 := Rk (IsS158.apart (show IsS158 w0 _ g s0_0 t245 t246 from PI) (PR HO237) (by decide)) hk; replace BK243 := kq hk BK243 NB243_0; replace HO249 := Rk (IsS158.apart (show IsS158 w0 _ g s0_0 t245 t246 from PI) (PR HO249) (by decide)) hk; replace HK := kt HK hk; replace HB := ak hb; replace HI0 := ak (hi); (try clear hb); (try clear hb2); (try clear hk); (try clear hi); obtain ⟨_, _, _, _, _, _, _, _, _, _⟩ := bc5 BK243; have hnb19 := NB233_0.out; have hnc19 := NB0_233.out; obtain ⟨_, _, _, _, _, _, _, _, _, _⟩ := bc5 BK233))
  refine bodyPost_ret (results_cell_row rfl _ _ gb233 38 #[.int .i64 t250, .slice Ao12 t235.length co12, .int .i64 t238, .int .i64 t239, .int .i64 t240] (0, 0) _ rfl (PX BK233) Try.underlying38 rfl KR) rfl ?_
  exact ⟨_, RT, RX (Rt (Rt HO237.out BK243) BK233) (fun _ hk => trivial), PI, PL, PH⟩
 ·rw [if_neg c4] at H
  have c4b0 : (t244 == 0) = false := beq_eq_false_iff_ne.mpr c4
  have c4b1 : (t244 != 0) = true := bne_iff_ne.mpr c4
  by_cases c21 : t244 = 1
  ·rw [if_pos c21] at H
   have c21b0 : (t244 == 1) = true := beq_iff_eq.mpr c21
   have c21b1 : (t244 != 1) = false := bne_eq_false_iff_eq.mpr c21
   clear c21
   obtain ⟨y253, hy253⟩ : ∃ y_ : List Int, y_ = (([(-1), 255, 256] : List Int)) := ⟨_, rfl⟩
   replace H : ((spec_l1Int.f s0_0 t245 t246 y253).bind fun bt256 => (if t235.length < 17592186044416 then (some (t234, (t235 ++ [bt256.1]), t238, t239, t240, bt256.2.1, bt256.2.2)) else (none))) = some (r1, r2, r3, r4, r5, r6, r7) := by first | (rw [hy253]; with_reducible exact H) | (have H2_ := (Option.bind_some _ _).symm.trans H; rw [hy253]; with_reducible exact H2_) | (have H2_ := (Option.bind_some _ _).symm.trans H; with_reducible exact H2_) | with_reducible exact H | (rw [hy253]; exact H) | exact H
   have Ny253 := Aside0.mk hy253
   clear hy253
   replace H := Option.bind_eq_some_iff.mp H
   obtain ⟨⟨t256, t257, t258⟩, A220, H⟩ := H
   replace H : (if t235.length < 17592186044416 then (some (t234, (t235 ++ [t256]), t238, t239, t240, t257, t258)) else (none)) = some (r1, r2, r3, r4, r5, r6, r7) := H
   have A22 := Aside0.mk A220
   clear A220
   by_cases c23 : t235.length < 17592186044416
   ·rw [if_pos c23] at H
    have LMc23 := Aside0.mk c23
    clear c23
    obtain ⟨y259, hy259⟩ : ∃ y_ : List Int, y_ = (t235 ++ [t256]) := ⟨_, rfl⟩
    replace H : (some (t234, y259, t238, t239, t240, t257, t258)) = some (r1, r2, r3, r4, r5, r6, r7) := by first | (rw [hy259]; with_reducible exact H) | (have H2_ := (Option.bind_some _ _).symm.trans H; rw [hy259]; with_reducible exact H2_) | (have H2_ := (Option.bind_some _ _).symm.trans H; with_reducible exact H2_) | with_reducible exact H | (rw [hy259]; exact H) | exact H
    have Ny259 := Aside0.mk hy259
    clear hy259
    simp only [Option.some.injEq, Prod.mk.injEq] at H
    obtain ⟨rfl, rfl, rfl, rfl, rfl, rfl, rfl⟩ := H
    go_enter Try.func142, Try.ntmps142
    try go_wp2_with (first | ((with_reducible refine gate_dst (N := 2) rfl ?_); refine bx_ (N := 2) #[.int .i64 0, .slice none 0 0, .int .i64 0, .int .i64 0, .int .i64 0] 38 ?_; intro gb233 hg w24 hbox hb; replace HB := bs HB hb; have BK233 := ak hbox; have GW233 := ak (kz hg HK); have GE233 := ak (Nat.le_trans HW0.out (kz hg HK)); replace HK := ak (KeepBut.trans PH (KeepBut.of_below hb g none) (.inl rfl)); have NB0_233 := ak (nh hg (IsS158.lt (show IsS158 w0 _ g s0_0 s0_1 s0_2 from PI))); have NB233_0 := ak (ng hg (IsS158.lt (show IsS158 w0 _ g s0_0 s0_1 s0_2 from PI))); replace HI0 := ak (IsS158.below PI hb); clear hb hbox hg) | ((with_reducible refine gate_callee (f := 150) rfl ?_); refine goesL_ (some 5) rfl rfl Try.func150 KR rfl #[.pointer (some ⟨g, 0, none⟩)] rfl AR ?_; (with_reducible refine (spec_l5Draw.calls k g s0_0 s0_1 s0_2 t234 t235 t238 t239 t240 t241 t242 w0 _ ?side1 ?side2 A2.out).mono ?_); (case side1 => exact PI); (case side2 => exact PL); rintro e w25 ⟨v236, rfl, ho0, hi, hb, hk⟩; refine ⟨_, rfl, ?_⟩; replace BK233 := kq hk BK233 NB233_0; have HO237 := ak (Kd.R_lower ho0 (keep_size (w := w) (g := g) (row := none) PH)); replace HK := kt HK hk; replace HB := ak hb; replace HI0 := ak (hi); (try clear hb); (try clear hb2); (try clear hk); (try clear hi); (try clear ho0)) | ((with_reducible refine gate_dst (N := 3) rfl ?_); refine bx_ (N := 3) #[.int .i64 0, .slice none 0 0, .int .i64 0, .int .i64 0, .int .i64 0] 38 ?_; intro gb243 hg w26 hbox hb; replace HO237 := Rb HO237 hb; replace HB := bs HB hb; have BK243 := ak hbox; have GW243 := ak (kz hg HK); have GE243 := ak (Nat.le_trans HW0.out (kz hg HK)); replace HK := ak (KeepBut.trans PH (KeepBut.of_below hb g none) (.inl rfl)); have NB233_243 := gm hg BK233; have NB243_233 := gn hg BK233; replace BK233 := kf BK233 hb; have NB0_243 := ak (nh hg (IsS158.lt (show IsS158 w0 _ g s0_0 t241 t242 from PI))); have NB243_0 := ak (ng hg (IsS158.lt (show IsS158 w0 _ g s0_0 t241 t242 from PI))); replace HI0 := ak (IsS158.below PI hb); clear hb hbox hg; have hnb27 := NB243_233.out; have hnc27 := NB233_243.out; have hnb28 := NB243_0.out; have hnc28 := NB0_243.out; obtain ⟨hcz29_0, hcz29_1, hcz29_2, _, _, hfz29_0, hfz29_1, hfz29_2, _, _⟩ := bc5 BK243; obtain ⟨Ao30, co30, eo30⟩ := Kd.R_slice HO237.out; subst eo30) | ((with_reducible refine gate_callee (f := 68) rfl ?_); refine goesL_ (some 7) rfl rfl Try.func68 KR rfl #[.pointer (some ⟨g, 0, none⟩), .int .i64 9] rfl AR ?_; (with_reducible refine (spec_l1Below.calls g s0_0 t241 t242 9 t244 t245 t246 w0 _ ?side1 ?side2 A3.out).mono ?_); (case side1 => exact PI); (case side2 => exact PL); rintro e w31 ⟨rfl, hi, hb, hk⟩; refine ⟨_, rfl, ?_⟩; replace BK233 := kq hk BK233 NB233_0; replace HO237 := Rk (IsS158.apart (show IsS158 w0 _ g s0_0 t241 t242 from PI) (Re1 HO237 BK243) (by decide)) hk; replace BK243 := kr (cs' := #[.int .i64 t234, .slice Ao30 t235.length co30, .int .i64 t238, .int .i64 t239, .int .i64 t240]) hk BK243 NB243_0; replace HK := kt HK hk; replace HB := ak hb; replace HI0 := ak (hi); (try clear hb); (try clear hb2); (try clear hk); (try clear hi)))
    replace HO237 := ak (Kd.R_drew HO237.out)
    replace BK233 := ak (blk_drew BK233.out)
    replace BK243 := ak (blk_drew BK243.out)
    replace HI0 := ak (IsS158.drew HI0.out)
    replace HK := ak (keep_drew HK.out)
    replace HB := ak (below_drew1 HB.out)
    refine start_ (n := 9) (S := fun w' => w'.cell? ⟨gb243, 0, none⟩ = some (.int .i64 t234) ∧ w'.cell? ⟨gb243, 1, none⟩ = some (.slice Ao30 t235.length co30) ∧ w'.cell? ⟨gb243, 2, none⟩ = some (.int .i64 t238) ∧ w'.cell? ⟨gb243, 3, none⟩ = some (.int .i64 t239) ∧ w'.cell? ⟨gb243, 4, none⟩ = some (.int .i64 t240)) (ds := [8]) #[false, false, false, false, false, false, false, false, false] KR rfl rfl ⟨(blk_cell BK243.out 0).trans rfl, (blk_cell BK243.out 1).trans rfl, (blk_cell BK243.out 2).trans rfl, (blk_cell BK243.out 3).trans rfl, (blk_cell BK243.out 4).trans rfl⟩ (fun hHeld => ?_); refine with_tabW spec_l5Any.tab6 spec_l5Any.bits6 (fun HT_ HW_ => ?_)
    generalize w31.drew = w32 at HO237 BK233 BK243 HI0 HK HB hHeld ⊢
    refine pu_ (i := 0) (N := some 16) #[true, false, false, false, false, false, false, false, false] HT_ ?_
    refine pu_ (i := 2) (N := some 18) #[true, false, true, false, false, false, false, false, false] HT_ ?_
    refine tk_ (i := 1) (N := some 17) #[true, true, true, false, false, false, false, false, false] rfl rfl HT_ HW_ hHeld ?_
    refine one_ (i := 3) (N := some 19) #[true, true, true, true, false, false, false, false, false] rfl rfl (one_of HT_.out KR) (by decide) (fun K hK => ?_)
    refine Kd.R_lit_step (Kd.int .i64) _ 3 ?hg (N := 19) ?hd (xs := ([(-1), 255, 256] : List Int)) (inner := [.int .i64 (-1), .int .i64 255, .int .i64 256]) (ok := fun _ => True) (okp := fun _ => True) ?hr ?hp (fun _ hk => hk) trivial (Below.refl _ _) (Nat.le_refl _) (by simp) ?_; (case hd => rfl); (case hg => rfl); (case hr => first | (go_simp; done) | (go_simp; rfl)); (case hp => exact (Reps.one (show Kd.M (Kd.int .i64) _ _ _ (-1) [.int .i64 (-1)] from rfl) (Reps.one (show Kd.M (Kd.int .i64) _ _ _ 255 [.int .i64 255] from rfl) (Reps.one (show Kd.M (Kd.int .i64) _ _ _ 256 [.int .i64 256] from rfl) (Reps.none _ _)))))
    intro v254 w33 ho34 hb hg_ hnew_
    clear hg_ hnew_
    (first | rw [← Ny253.out] at ho34 | (simp only [Int.reduceToNat] at ho34; rw [← Ny253.out] at ho34))
    have HO255 := ak (Kd.R_lower (Kd.R_new' ho34 (Kd.R_lt (PR HO237))) (keep_size (w := w) (g := g) (row := none) PH))
    replace HO237 := ak (Kd.R_elder' (PR HO237) (Kd.R_base ho34) hb)
    replace HI0 := ak (IsS158.below PI hb)
    replace BK233 := kf BK233 hb
    replace BK243 := kf BK243 hb
    replace HK := ak (KeepBut.trans PH (KeepBut.of_below hb g none) (.inl rfl))
    replace HB := bs HB hb
    clear hb ho34
    obtain ⟨Ao35, co35, eo35⟩ := Kd.R_slice HO255.out
    (first | subst eo35 | (injection eo35 with f1_ f2_ f3_; have f4_ := f1_.symm; have f5_ := f3_.symm; clear f1_ f2_ f3_; subst f4_; subst f5_))
    refine hK.out _ _ ⟨(blk_cell BK243.out 0).trans rfl, (blk_cell BK243.out 1).trans rfl, (blk_cell BK243.out 2).trans rfl, (blk_cell BK243.out 3).trans rfl, (blk_cell BK243.out 4).trans rfl⟩ (fun hHeld => ?_)
    clear hK K
    refine norm_ (a' := ?_) ?_ ?_
    rotate_left
    ·show Act.put _ (some 19) _ = _
     simp only [Act.put, List.setIfInBounds_toArray, List.set_cons_zero, List.set_cons_succ, i64_w, i32_w]
     rfl
    refine one_ (i := 4) (N := some 20) #[true, true, true, true, true, false, false, false, false] rfl rfl (one_of HT_.out KR) (by decide) (fun K hK => ?_)
    refine goes_ Try.func67 KR rfl #[.pointer (some ⟨g, 0, none⟩), .slice Ao35 y253.length co35] (by rfl) rfl rfl AR ?_
    with_reducible refine (spec_l1Int.calls g s0_0 t245 t246 _ _ y253 t256 t257 t258 w0 _ ?side1 ?side2 ?side3 ?side4 ?side5 A22.out).mono ?_
    (case side1 => exact PI)
    (case side2 => exact PL)
    (case side3 => exact CR ((Kd.R_reads' HO255.out).2.2))
    (case side4 => exact (Kd.R_reads' HO255.out).2.1)
    (case side5 => exact far_slice (IsS158.own_ne HI0.out HO255.out (by decide)))
    rintro e w36 ⟨rfl, hi, hb, hk⟩
    refine ⟨_, rfl, ?_⟩
    replace BK233 := kq hk BK233 NB233_0
    replace HO237 := Rk (IsS158.apart (show IsS158 w0 _ g s0_0 t245 t246 from PI) (PR HO237) (by decide)) hk
    replace BK243 := kq hk BK243 NB243_0
    replace HO255 := Rk (IsS158.apart (show IsS158 w0 _ g s0_0 t245 t246 from PI) (PR HO255) (by decide)) hk
    replace HK := kt HK hk
    replace HB := ak hb
    replace HI0 := ak (hi)
    (try clear hb)
    (try clear hb2)
    (try clear hk)
    (try clear hi)
    refine hK.out _ _ ⟨(blk_cell BK243.out 0).trans rfl, (blk_cell BK243.out 1).trans rfl, (blk_cell BK243.out 2).trans rfl, (blk_cell BK243.out 3).trans rfl, (blk_cell BK243.out 4).trans rfl⟩ (fun hHeld => ?_)
    clear hK K
    refine norm_ (a' := ?_) ?_ ?_
    rotate_left
    ·show Act.put _ (some 20) _ = _
     simp only [Act.put, List.setIfInBounds_toArray, List.set_cons_zero, List.set_cons_succ, i64_w, i32_w]
     rfl
    refine one_ (i := 5) (N := some 21) #[true, true, true, true, true, true, false, false, false] rfl rfl (one_of HT_.out KR) (by decide) (fun K hK => ?_)
    refine value_ (w1 := ?_) (v := ?_) (by rfl) rfl ?_ ?_
    rotate_left 2
    ·go_simp
     constructor
     ·rfl
     ·rfl
    refine hK.out _ _ ⟨(blk_cell (blk_alloc BK243.out _) 0).trans rfl, (blk_cell (blk_alloc BK243.out _) 1).trans rfl, (blk_cell (blk_alloc BK243.out _) 2).trans rfl, (blk_cell (blk_alloc BK243.out _) 3).trans rfl, (blk_cell (blk_alloc BK243.out _) 4).trans rfl⟩ (fun hHeld => ?_)
    clear hK K
    refine norm_ (a' := ?_) ?_ ?_
    rotate_left
    ·show Act.put _ (some 21) _ = _
     simp only [Act.put, List.setIfInBounds_toArray, List.set_cons_zero, List.set_cons_succ, i64_w, i32_w]
     rfl
    refine one_ (i := 6) (N := some 22) #[true, true, true, true, true, true, true, false, false] rfl rfl (one_of HT_.out KR) (by decide) (fun K hK => ?_)
    refine Kd.R_append_step (Kd.int .i64) w.heap.size (by rfl) (.tmp 17) (.tmp 21) 36 3 (.int .i64 0) 8 rfl Try.underlying36 info3 rfl (by decide) (by omega) (.slice Ao30 t235.length co30) t235 t256 [.int .i64 t256] (fun k_ => some k_ ≠ (.slice Ao35 y253.length co35 : Value).ownBlock) (fun _ => False) rfl rfl ?aP (fun _ hk => hk.elim) ?aF ?aO (Below.refl _ _) ?aS ?aL ?_
    (case aP => exact rfl)
    (case aF => exact (fun k_ hk => Kd.fresh' (Kd.R_lt (PR HO255)) k_ hk))
    (case aO => exact (RX HO237.out FK))
    (case aS => exact (keep_size (w := w) (g := g) (row := none) PH))
    (case aL => have := LMc23.out; omega)
    intro v260 w37 ho hb hg hat
    rw [← Ny259.out] at ho
    replace HI0 := ak (IsS158.grown PI hg (IsS158.own_ne HI0.out HO237.out (by decide)))
    replace BK233 := ak (blk_grown (g := gb233) (o := .cells #[.int .i64 0, .slice none 0 0, .int .i64 0, .int .i64 0, .int .i64 0] 38 (0, 0)) (PK BK233) hg (Kd.R_ne HO237.out BK233.out (by decide)))
    replace BK243 := ak (blk_grown (g := gb243) (o := .cells #[.int .i64 t234, .slice Ao30 t235.length co30, .int .i64 t238, .int .i64 t239, .int .i64 t240] 38 (0, 0)) (PK BK243) hg (Kd.R_ne HO237.out BK243.out (by decide)))
    replace HO255 := ak (Kd.R_after (ok := (fun _ => True)) (PR HO255) hg hat)
    replace HB := ak (below_weaken PL HL.out hb)
    replace HK := ak (KeepBut.trans PH (KeepBut.of_grown hg g) (Kd.R_base2 HO237.out))
    have HO261 := ak (ho)
    clear HO237
    clear ho hb hg hat
    obtain ⟨Ao38, co38, eo38⟩ := Kd.R_slice HO261.out
    (first | subst eo38 | (injection eo38 with f1_ f2_ f3_; have f4_ := f1_.symm; have f5_ := f3_.symm; clear f1_ f2_ f3_; subst f4_; subst f5_))
    refine hK.out _ _ ⟨(blk_cell BK243.out 0).trans rfl, (blk_cell BK243.out 1).trans rfl, (blk_cell BK243.out 2).trans rfl, (blk_cell BK243.out 3).trans rfl, (blk_cell BK243.out 4).trans rfl⟩ (fun hHeld => ?_)
    clear hK K
    refine norm_ (a' := ?_) ?_ ?_
    rotate_left
    ·show Act.put _ (some 22) _ = _
     simp only [Act.put, List.setIfInBounds_toArray, List.set_cons_zero, List.set_cons_succ, i64_w, i32_w]
     rfl
    refine pu_ (i := 7) (N := some 23) #[true, true, true, true, true, true, true, true, false] HT_ ?_
    refine last_ (i := 8) (N := none) #[true, true, true, true, true, true, true, true, true] rfl rfl (one_of HT_.out KR) (by decide) (fun K hK => ?_)
    have hs39 : w37.cell? ⟨gb243, 1, none⟩ = some (.slice Ao30 t235.length co30) := (blk_cell BK243.out 1).trans rfl
    have hfs39 := blk_frozen BK243.out 1
    have hns39_0 := NB233_243.out
    have hms39_0 := NB243_233.out
    refine skip_ (w1 := ?_) (by rfl) rfl ?_ ?_
    rotate_left
    ·go_simp
     rfl
    refine hK.out _ _ ?_
    clear hK K
    refine done_ (done_of HT_.out KR) ?_
    obtain ⟨hcz40_0, hcz40_1, hcz40_2, _, _, hfz40_0, hfz40_1, hfz40_2, _, _⟩ := bc5 BK243
    have hnb41 := NB233_0.out
    have hnc41 := NB0_233.out
    obtain ⟨hcz42_0, hcz42_1, hcz42_2, _, _, hfz42_0, hfz42_1, hfz42_2, _, _⟩ := bc5 BK233
    try go_wp2
    refine bodyPost_ret (results_cell_row rfl _ _ gb233 38 #[.int .i64 t234, .slice Ao38 y259.length co38, .int .i64 t238, .int .i64 t239, .int .i64 t240] (0, 0) _ rfl (PX BK233) Try.underlying38 rfl KR) rfl ?_
    exact ⟨.slice Ao38 y259.length co38, RT, RX (Rt (Rt HO261.out BK243) BK233) (fun _ hk => trivial), PI, PL, PH⟩
   ·rw [if_neg c23] at H
    exact absurd H (by simp)
  ·rw [if_neg c21] at H
   have c21b0 : (t244 == 1) = false := beq_eq_false_iff_ne.mpr c21
   have c21b1 : (t244 != 1) = true := bne_iff_ne.mpr c21
   by_cases c43 : t244 = 2
   ·rw [if_pos c43] at H
    have c43b0 : (t244 == 2) = true := beq_iff_eq.mpr c43
    have c43b1 : (t244 != 2) = false := bne_eq_false_iff_eq.mpr c43
    clear c43
    obtain ⟨y262, hy262⟩ : ∃ y_ : List Int, y_ = (([1, 2, 3, 4, 5, 6, 7] : List Int)) := ⟨_, rfl⟩
    replace H : (some (t234, y262, t238, t239, t240, t245, t246)) = some (r1, r2, r3, r4, r5, r6, r7) := by first | (rw [hy262]; with_reducible exact H) | (have H2_ := (Option.bind_some _ _).symm.trans H; rw [hy262]; with_reducible exact H2_) | (have H2_ := (Option.bind_some _ _).symm.trans H; with_reducible exact H2_) | with_reducible exact H | (rw [hy262]; exact H) | exact H
    have Ny262 := Aside0.mk hy262
    clear hy262
    simp only [Option.some.injEq, Prod.mk.injEq] at H
    obtain ⟨rfl, rfl, rfl, rfl, rfl, rfl, rfl⟩ := H
    go_enter Try.func142, Try.ntmps142
    go_wp2_with (first | ((with_reducible refine gate_dst (N := 2) rfl ?_); refine bx_ (N := 2) #[.int .i64 0, .slice none 0 0, .int .i64 0, .int .i64 0, .int .i64 0] 38 ?_; intro gb233 hg w44 hbox hb; replace HB := bs HB hb; have BK233 := ak hbox; have GW233 := ak (kz hg HK); have GE233 := ak (Nat.le_trans HW0.out (kz hg HK)); replace HK := ak (KeepBut.trans PH (KeepBut.of_below hb g none) (.inl rfl)); have NB0_233 := ak (nh hg (IsS158.lt (show IsS158 w0 _ g s0_0 s0_1 s0_2 from PI))); have NB233_0 := ak (ng hg (IsS158.lt (show IsS158 w0 _ g s0_0 s0_1 s0_2 from PI))); replace HI0 := ak (IsS158.below PI hb); clear hb hbox hg) | ((with_reducible refine gate_callee (f := 150) rfl ?_); refine goesL_ (some 5) rfl rfl Try.func150 KR rfl #[.pointer (some ⟨g, 0, none⟩)] rfl AR ?_; (with_reducible refine (spec_l5Draw.calls k g s0_0 s0_1 s0_2 t234 t235 t238 t239 t240 t241 t242 w0 _ ?side1 ?side2 A2.out).mono ?_); (case side1 => exact PI); (case side2 => exact PL); rintro e w45 ⟨v236, rfl, ho0, hi, hb, hk⟩; refine ⟨_, rfl, ?_⟩; replace BK233 := kq hk BK233 NB233_0; have HO237 := ak (Kd.R_lower ho0 (keep_size (w := w) (g := g) (row := none) PH)); replace HK := kt HK hk; replace HB := ak hb; replace HI0 := ak (hi); (try clear hb); (try clear hb2); (try clear hk); (try clear hi); (try clear ho0)) | ((with_reducible refine gate_dst (N := 3) rfl ?_); refine bx_ (N := 3) #[.int .i64 0, .slice none 0 0, .int .i64 0, .int .i64 0, .int .i64 0] 38 ?_; intro gb243 hg w46 hbox hb; replace HO237 := Rb HO237 hb; replace HB := bs HB hb; have BK243 := ak hbox; have GW243 := ak (kz hg HK); have GE243 := ak (Nat.le_trans HW0.out (kz hg HK)); replace HK := ak (KeepBut.trans PH (KeepBut.of_below hb g none) (.inl rfl)); have NB233_243 := gm hg BK233; have NB243_233 := gn hg BK233; replace BK233 := kf BK233 hb; have NB0_243 := ak (nh hg (IsS158.lt (show IsS158 w0 _ g s0_0 t241 t242 from PI))); have NB243_0 := ak (ng hg (IsS158.lt (show IsS158 w0 _ g s0_0 t241 t242 from PI))); replace HI0 := ak (IsS158.below PI hb); clear hb hbox hg; have hnb47 := NB243_233.out; have hnc47 := NB233_243.out; have hnb48 := NB243_0.out; have hnc48 := NB0_243.out; obtain ⟨_, _, _, _, _, _, _, _, _, _⟩ := bc5 BK243; obtain ⟨Ao50, co50, eo50⟩ := Kd.R_slice HO237.out; subst eo50) | ((with_reducible refine gate_callee (f := 68) rfl ?_); refine goesL_ (some 7) rfl rfl Try.func68 KR rfl #[.pointer (some ⟨g, 0, none⟩), .int .i64 9] rfl AR ?_; (with_reducible refine (spec_l1Below.calls g s0_0 t241 t242 9 t244 t245 t246 w0 _ ?side1 ?side2 A3.out).mono ?_); (case side1 => exact PI); (case side2 => exact PL); rintro e w51 ⟨rfl, hi, hb, hk⟩; refine ⟨_, rfl, ?_⟩; replace BK233 := kq hk BK233 NB233_0; replace HO237 := Rk (IsS158.apart (show IsS158 w0 _ g s0_0 t241 t242 from PI) (Re1 HO237 BK243) (by decide)) hk; replace BK243 := kr (cs' := #[.int .i64 t234, .slice Ao50 t235.length co50, .int .i64 t238, .int .i64 t239, .int .i64 t240]) hk BK243 NB243_0; replace HK := kt HK hk; replace HB := ak hb; replace HI0 := ak (hi); (try clear hb); (try clear hb2); (try clear hk); (try clear hi)) | ((with_reducible refine gate_dst (N := 26) rfl ?_); refine Kd.R_lit (Kd.int .i64) _ 3 ?hg (N := 26) ?hd (xs := ([1, 2, 3, 4, 5, 6, 7] : List Int)) (inner := [.int .i64 1, .int .i64 2, .int .i64 3, .int .i64 4, .int .i64 5, .int .i64 6, .int .i64 7]) (ok := fun _ => True) (okp := fun _ => True) ?hr ?hp (fun _ hk => hk) trivial (Below.refl _ _) (Nat.le_refl _) (by simp) ?_; (case hd => rfl); (case hg => rfl); (case hr => first | (go_simp; done) | (go_simp; rfl)); (case hp => exact (Reps.one (show Kd.M (Kd.int .i64) _ _ _ 1 [.int .i64 1] from rfl) (Reps.one (show Kd.M (Kd.int .i64) _ _ _ 2 [.int .i64 2] from rfl) (Reps.one (show Kd.M (Kd.int .i64) _ _ _ 3 [.int .i64 3] from rfl) (Reps.one (show Kd.M (Kd.int .i64) _ _ _ 4 [.int .i64 4] from rfl) (Reps.one (show Kd.M (Kd.int .i64) _ _ _ 5 [.int .i64 5] from rfl) (Reps.one (show Kd.M (Kd.int .i64) _ _ _ 6 [.int .i64 6] from rfl) (Reps.one (show Kd.M (Kd.int .i64) _ _ _ 7 [.int .i64 7] from rfl) (Reps.none _ _))))))))); intro v263 w52 ho53 hb hg_ hnew_; clear hg_ hnew_; (first | rw [← Ny262.out] at ho53 | (simp only [Int.reduceToNat] at ho53; rw [← Ny262.out] at ho53)); have HO264 := ak (Kd.R_lower (Kd.R_new' ho53 (Kd.R_lt (PR HO237))) (keep_size (w := w) (g := g) (row := none) PH)); replace HO237 := ak (Kd.R_elder' (PR HO237) (Kd.R_base ho53) hb); replace HI0 := ak (IsS158.below PI hb); replace BK233 := kf BK233 hb; replace BK243 := kf BK243 hb; replace HK := ak (KeepBut.trans PH (KeepBut.of_below hb g none) (.inl rfl)); replace HB := bs HB hb; clear hb ho53; obtain ⟨Ao54, co54, eo54⟩ := Kd.R_slice HO264.out; subst eo54; obtain ⟨_, _, _, _, _, _, _, _, _, _⟩ := bc5 BK243; have hnb56 := NB233_0.out; have hnc56 := NB0_233.out; obtain ⟨_, _, _, _, _, _, _, _, _, _⟩ := bc5 BK233))
    refine bodyPost_ret (results_cell_row rfl _ _ gb233 38 #[.int .i64 t234, .slice Ao54 y262.length co54, .int .i64 t238, .int .i64 t239, .int .i64 t240] (0, 0) _ rfl (PX BK233) Try.underlying38 rfl KR) rfl ?_
    exact ⟨.slice Ao54 y262.length co54, RT, RX (Rt (Rt HO264.out BK243) BK233) (fun _ hk => trivial), PI, PL, PH⟩
   ·rw [if_neg c43] at H
    have c43b0 : (t244 == 2) = false := beq_eq_false_iff_ne.mpr c43
    have c43b1 : (t244 != 2) = true := bne_iff_ne.mpr c43
    by_cases c58 : t244 = 3
    ·rw [if_pos c58] at H
     have c58b0 : (t244 == 3) = true := beq_iff_eq.mpr c58
     have c58b1 : (t244 != 3) = false := bne_eq_false_iff_eq.mpr c58
     clear c58
     replace H := Option.bind_eq_some_iff.mp H
     obtain ⟨⟨t265, t266, t267, t268, t269⟩, A590, H⟩ := H
     replace H : (some (t234, t235, t265, t266, t267, t268, t269)) = some (r1, r2, r3, r4, r5, r6, r7) := H
     have A59 := Aside0.mk A590
     clear A590
     simp only [Option.some.injEq, Prod.mk.injEq] at H
     obtain ⟨rfl, rfl, rfl, rfl, rfl, rfl, rfl⟩ := H
     go_enter Try.func142, Try.ntmps142
     go_wp2_with (first | ((with_reducible refine gate_dst (N := 2) rfl ?_); refine bx_ (N := 2) #[.int .i64 0, .slice none 0 0, .int .i64 0, .int .i64 0, .int .i64 0] 38 ?_; intro gb233 hg w60 hbox hb; replace HB := bs HB hb; have BK233 := ak hbox; have GW233 := ak (kz hg HK); have GE233 := ak (Nat.le_trans HW0.out (kz hg HK)); replace HK := ak (KeepBut.trans PH (KeepBut.of_below hb g none) (.inl rfl)); have NB0_233 := ak (nh hg (IsS158.lt (show IsS158 w0 _ g s0_0 s0_1 s0_2 from PI))); have NB233_0 := ak (ng hg (IsS158.lt (show IsS158 w0 _ g s0_0 s0_1 s0_2 from PI))); replace HI0 := ak (IsS158.below PI hb); clear hb hbox hg) | ((with_reducible refine gate_callee (f := 150) rfl ?_); refine goesL_ (some 5) rfl rfl Try.func150 KR rfl #[.pointer (some ⟨g, 0, none⟩)] rfl AR ?_; (with_reducible refine (spec_l5Draw.calls k g s0_0 s0_1 s0_2 t234 t235 t238 t239 t240 t241 t242 w0 _ ?side1 ?side2 A2.out).mono ?_); (case side1 => exact PI); (case side2 => exact PL); rintro e w61 ⟨v236, rfl, ho0, hi, hb, hk⟩; refine ⟨_, rfl, ?_⟩; replace BK233 := kq hk BK233 NB233_0; have HO237 := ak (Kd.R_lower ho0 (keep_size (w := w) (g := g) (row := none) PH)); replace HK := kt HK hk; replace HB := ak hb; replace HI0 := ak (hi); (try clear hb); (try clear hb2); (try clear hk); (try clear hi); (try clear ho0)) | ((with_reducible refine gate_dst (N := 3) rfl ?_); refine bx_ (N := 3) #[.int .i64 0, .slice none 0 0, .int .i64 0, .int .i64 0, .int .i64 0] 38 ?_; intro gb243 hg w62 hbox hb; replace HO237 := Rb HO237 hb; replace HB := bs HB hb; have BK243 := ak hbox; have GW243 := ak (kz hg HK); have GE243 := ak (Nat.le_trans HW0.out (kz hg HK)); replace HK := ak (KeepBut.trans PH (KeepBut.of_below hb g none) (.inl rfl)); have NB233_243 := gm hg BK233; have NB243_233 := gn hg BK233; replace BK233 := kf BK233 hb; have NB0_243 := ak (nh hg (IsS158.lt (show IsS158 w0 _ g s0_0 t241 t242 from PI))); have NB243_0 := ak (ng hg (IsS158.lt (show IsS158 w0 _ g s0_0 t241 t242 from PI))); replace HI0 := ak (IsS158.below PI hb); clear hb hbox hg; have hnb63 := NB243_233.out; have hnc63 := NB233_243.out; have hnb64 := NB243_0.out; have hnc64 := NB0_243.out; obtain ⟨_, _, _, _, _, _, _, _, _, _⟩ := bc5 BK243; obtain ⟨Ao66, co66, eo66⟩ := Kd.R_slice HO237.out; subst eo66) | ((with_reducible refine gate_callee (f := 68) rfl ?_); refine goesL_ (some 7) rfl rfl Try.func68 KR rfl #[.pointer (some ⟨g, 0, none⟩), .int .i64 9] rfl AR ?_; (with_reducible refine (spec_l1Below.calls g s0_0 t241 t242 9 t244 t245 t246 w0 _ ?side1 ?side2 A3.out).mono ?_); (case side1 => exact PI); (case side2 => exact PL); rintro e w67 ⟨rfl, hi, hb, hk⟩; refine ⟨_, rfl, ?_⟩; replace BK233 := kq hk BK233 NB233_0; replace HO237 := Rk (IsS158.apart (show IsS158 w0 _ g s0_0 t241 t242 from PI) (Re1 HO237 BK243) (by decide)) hk; replace BK243 := kr (cs' := #[.int .i64 t234, .slice Ao66 t235.length co66, .int .i64 t238, .int .i64 t239, .int .i64 t240]) hk BK243 NB243_0; replace HK := kt HK hk; replace HB := ak hb; replace HI0 := ak (hi); (try clear hb); (try clear hb2); (try clear hk); (try clear hi)) | ((with_reducible refine gate_callee (f := 121) rfl ?_); refine goesL_ (some 31) rfl rfl Try.func121 KR rfl #[.pointer (some ⟨g, 0, none⟩)] rfl AR ?_; (with_reducible refine (spec_l4Any.calls g s0_0 t245 t246 t265 t266 t267 t268 t269 w0 _ ?side1 ?side2 A59.out).mono ?_); (case side1 => exact PI); (case side2 => exact PL); rintro e w68 ⟨rfl, hi, hb, hk⟩; refine ⟨_, rfl, ?_⟩; replace BK233 := kq hk BK233 NB233_0; replace HO237 := Rk (IsS158.apart (show IsS158 w0 _ g s0_0 t245 t246 from PI) (PR HO237) (by decide)) hk; replace BK243 := kq hk BK243 NB243_0; replace HK := kt HK hk; replace HB := ak hb; replace HI0 := ak (hi); (try clear hb); (try clear hb2); (try clear hk); (try clear hi); obtain ⟨_, _, _, _, _, _, _, _, _, _⟩ := bc5 BK243; have hnb70 := NB233_0.out; have hnc70 := NB0_233.out; obtain ⟨_, _, _, _, _, _, _, _, _, _⟩ := bc5 BK233))
     refine bodyPost_ret (results_cell_row rfl _ _ gb233 38 #[.int .i64 t234, .slice Ao66 t235.length co66, .int .i64 t265, .int .i64 t266, .int .i64 t267] (0, 0) _ rfl (PX BK233) Try.underlying38 rfl KR) rfl ?_
     exact ⟨_, RT, RX (Rt (Rt HO237.out BK243) BK233) (fun _ hk => trivial), PI, PL, PH⟩
    ·rw [if_neg c58] at H
     have c58b0 : (t244 == 3) = false := beq_eq_false_iff_ne.mpr c58
     have c58b1 : (t244 != 3) = true := bne_iff_ne.mpr c58
     simp only [Option.some.injEq, Prod.mk.injEq] at H
     obtain ⟨rfl, rfl, rfl, rfl, rfl, rfl, rfl⟩ := H
     go_enter Try.func142, Try.ntmps142
     go_wp2_with (first | ((with_reducible refine gate_dst (N := 2) rfl ?_); refine bx_ (N := 2) #[.int .i64 0, .slice none 0 0, .int .i64 0, .int .i64 0, .int .i64 0] 38 ?_; intro gb233 hg w72 hbox hb; replace HB := bs HB hb; have BK233 := ak hbox; have GW233 := ak (kz hg HK); have GE233 := ak (Nat.le_trans HW0.out (kz hg HK)); replace HK := ak (KeepBut.trans PH (KeepBut.of_below hb g none) (.inl rfl)); have NB0_233 := ak (nh hg (IsS158.lt (show IsS158 w0 _ g s0_0 s0_1 s0_2 from PI))); have NB233_0 := ak (ng hg (IsS158.lt (show IsS158 w0 _ g s0_0 s0_1 s0_2 from PI))); replace HI0 := ak (IsS158.below PI hb); clear hb hbox hg) | ((with_reducible refine gate_callee (f := 150) rfl ?_); refine goesL_ (some 5) rfl rfl Try.func150 KR rfl #[.pointer (some ⟨g, 0, none⟩)] rfl AR ?_; (with_reducible refine (spec_l5Draw.calls k g s0_0 s0_1 s0_2 t234 t235 t238 t239 t240 t241 t242 w0 _ ?side1 ?side2 A2.out).mono ?_); (case side1 => exact PI); (case side2 => exact PL); rintro e w73 ⟨v236, rfl, ho0, hi, hb, hk⟩; refine ⟨_, rfl, ?_⟩; replace BK233 := kq hk BK233 NB233_0; have HO237 := ak (Kd.R_lower ho0 (keep_size (w := w) (g := g) (row := none) PH)); replace HK := kt HK hk; replace HB := ak hb; replace HI0 := ak (hi); (try clear hb); (try clear hb2); (try clear hk); (try clear hi); (try clear ho0)) | ((with_reducible refine gate_dst (N := 3) rfl ?_); refine bx_ (N := 3) #[.int .i64 0, .slice none 0 0, .int .i64 0, .int .i64 0, .int .i64 0] 38 ?_; intro gb243 hg w74 hbox hb; replace HO237 := Rb HO237 hb; replace HB := bs HB hb; have BK243 := ak hbox; have GW243 := ak (kz hg HK); have GE243 := ak (Nat.le_trans HW0.out (kz hg HK)); replace HK := ak (KeepBut.trans PH (KeepBut.of_below hb g none) (.inl rfl)); have NB233_243 := gm hg BK233; have NB243_233 := gn hg BK233; replace BK233 := kf BK233 hb; have NB0_243 := ak (nh hg (IsS158.lt (show IsS158 w0 _ g s0_0 t241 t242 from PI))); have NB243_0 := ak (ng hg (IsS158.lt (show IsS158 w0 _ g s0_0 t241 t242 from PI))); replace HI0 := ak (IsS158.below PI hb); clear hb hbox hg; have hnb75 := NB243_233.out; have hnc75 := NB233_243.out; have hnb76 := NB243_0.out; have hnc76 := NB0_243.out; obtain ⟨_, _, _, _, _, _, _, _, _, _⟩ := bc5 BK243; obtain ⟨Ao78, co78, eo78⟩ := Kd.R_slice HO237.out; subst eo78) | ((with_reducible refine gate_callee (f := 68) rfl ?_); refine goesL_ (some 7) rfl rfl Try.func68 KR rfl #[.pointer (some ⟨g, 0, none⟩), .int .i64 9] rfl AR ?_; (with_reducible refine (spec_l1Below.calls g s0_0 t241 t242 9 t244 t245 t246 w0 _ ?side1 ?side2 A3.out).mono ?_); (case side1 => exact PI); (case side2 => exact PL); rintro e w79 ⟨rfl, hi, hb, hk⟩; refine ⟨_, rfl, ?_⟩; replace BK233 := kq hk BK233 NB233_0; replace HO237 := Rk (IsS158.apart (show IsS158 w0 _ g s0_0 t241 t242 from PI) (Re1 HO237 BK243) (by decide)) hk; replace BK243 := kr (cs' := #[.int .i64 t234, .slice Ao78 t235.length co78, .int .i64 t238, .int .i64 t239, .int .i64 t240]) hk BK243 NB243_0; replace HK := kt HK hk; replace HB := ak hb; replace HI0 := ak (hi); (try clear hb); (try clear hb2); (try clear hk); (try clear hi); obtain ⟨_, _, _, _, _, _, _, _, _, _⟩ := bc5 BK243; have hnb81 := NB233_0.out; have hnc81 := NB0_233.out; obtain ⟨_, _, _, _, _, _, _, _, _, _⟩ := bc5 BK233))
     refine bodyPost_ret (results_cell_row rfl _ _ gb233 38 #[.int .i64 t234, .slice Ao78 t235.length co78, .int .i64 t238, .int .i64 t239, .int .i64 t240] (0, 0) _ rfl (PX BK233) Try.underlying38 rfl KR) rfl ?_
     exact ⟨_, RT, RX (Rt HO237.out BK233) (fun _ hk => trivial), PI, PL, PH⟩

end Go.Proofs.Ytgcamebeonodeaa.MFnVisits
