-- Written by a program of this session out of the translation's own print. Not trusted: Lean checks it.
import Derived.Test.YtdpkidjddlnafaaShr
import Derived.Test.YtdpkidjddlnafaaMFnSitesx0
import Derived.Test.YtdpkidjddlnafaaMFnSitesx3
import Derived.Test.YtdpkidjddlnafaaMFnSitesx4
namespace Go.Proofs.Ytdpkidjddlnafaa.MFnSites
open Go.RowKit Go.Proofs.YtdpkidjddlnafaaW.PrintWords Go.Proofs.YtdpkidjddlnafaaW.PrintLast Go.Proofs.YtdpkidjddlnafaaW.PrintMore
attribute [local go_sem] max2_int min2_int max_two min_two max_three min_three max_four min_four   -- for this text's walks alone
set_option linter.unusedVariables false
set_option linter.unusedSimpArgs false

/-! ### impl_FollowAt: function 17 -/
def impl_FollowAt.l0 : Nat → List (S98) → Int → List (S26) → Int → List Int → Int → Int → Int → Option (Int × List Int × Int × Int × Int × (List (S26)))
  | 0, _, _, _, _, _, _, _, _ => none
  | k + 1, x0, x2, x9, x319000, x319001, x319002, x319003, x319004 => if x319000 = 3 then (if (x9.length : Int) ≤ 4 then ((impl_Address_63.f k x9 x319002 x319003 x319004).bind fun t322 => (if t322 = true then (some (x319000, x319001, x319002, x319003, x319004, x9)) else (if x9.length < 5864062014805 then ((impl_AnswerAt.f k x0 x319002 x319003 x319004 x2).bind fun bt326 => (impl_FollowAt.l0 k x0 x2 (x9 ++ [(⟨x319002, x319003, x319004⟩ : S26)]) bt326.1 bt326.2.1 bt326.2.2.1 bt326.2.2.2.1 bt326.2.2.2.2)) else (none)))) else (some (x319000, x319001, x319002, x319003, x319004, x9))) else (some (x319000, x319001, x319002, x319003, x319004, x9))
def impl_FollowAt.f (k : Nat) (l0 : List (S98)) (a1_0 : Int) (a1_1 : Int) (a1_2 : Int) (a2 : Int) : Option (Int × List Int × Int × Int × Int × (List (S26))) := (impl_AnswerAt.f k l0 a1_0 a1_1 a1_2 a2).bind fun bt311 => (impl_FollowAt.l0 k l0 a2 (([(⟨a1_0, a1_1, a1_2⟩ : S26)] : List (S26))) bt311.1 bt311.2.1 bt311.2.2.1 bt311.2.2.2.1 bt311.2.2.2.2)
set_option maxHeartbeats 8000000 in
set_option maxRecDepth 100000 in
theorem impl_FollowAt.calls (k : Nat) (A0 : Option Addr) (c0 : Nat) (l0 : List (S98)) (a1_0 : Int) (a1_1 : Int) (a1_2 : Int) (a2 : Int) (r1 : Int) (r2 : List Int) (r3 : Int) (r4 : Int) (r5 : Int) (r6 : List (S26)) (w : World) (hr0 : Kd.C k98 w A0 l0.length l0) (hc0 : l0.length ≤ c0) (h : impl_FollowAt.f k l0 a1_0 a1_1 a1_2 a2 = some (r1, r2, r3, r4, r5, r6)) :
  Calls Try.prog 17 #[.slice A0 l0.length c0, .agg #[.int .i64 a1_0, .int .i64 a1_1, .int .i64 a1_2], .int .i64 a2] w fun e w' => ∃ v1_ v5_ : Value, e = .returned (.tuple #[.agg #[.int .i64 r1, v1_, .int .i64 r3, .int .i64 r4, .int .i64 r5], v5_]) ∧ Kd.R (Kd.int .i64) 3 w' w.heap.size (fun _ => True) v1_ r2 ∧ Kd.R k26 26 w' w.heap.size (fun _ => True) v5_ r6 ∧ Below w.heap.size w w' := by
 have hu26 := Try.underlying26
 have hu31 := Try.underlying31
 have HR0 := Aside0.mk hr0
 have HC0 := Aside0.mk hc0
 clear hr0 hc0
 have HB := ak (Below.refl w.heap.size w)
 have H : ((impl_AnswerAt.f k l0 a1_0 a1_1 a1_2 a2).bind fun bt311 => (impl_FollowAt.l0 k l0 a2 (([(⟨a1_0, a1_1, a1_2⟩ : S26)] : List (S26))) bt311.1 bt311.2.1 bt311.2.2.1 bt311.2.2.2.1 bt311.2.2.2.2)) = some (r1, r2, r3, r4, r5, r6) := h
 clear h
 replace H := Option.bind_eq_some_iff.mp H
 obtain ⟨⟨t311, t312, t315, t316, t317⟩, A40, H⟩ := H
 replace H : (impl_FollowAt.l0 k l0 a2 (([(⟨a1_0, a1_1, a1_2⟩ : S26)] : List (S26))) t311 t312 t315 t316 t317) = some (r1, r2, r3, r4, r5, r6) := H
 have A4 := Aside0.mk A40
 clear A40
 obtain ⟨y319, hy319⟩ : ∃ y_ : List (S26), y_ = (([(⟨a1_0, a1_1, a1_2⟩ : S26)] : List (S26))) := ⟨_, rfl⟩
 replace H : (impl_FollowAt.l0 k l0 a2 y319 t311 t312 t315 t316 t317) = some (r1, r2, r3, r4, r5, r6) := by first | (rw [hy319]; with_reducible exact H) | (have H2_ := (Option.bind_some _ _).symm.trans H; rw [hy319]; with_reducible exact H2_) | (have H2_ := (Option.bind_some _ _).symm.trans H; with_reducible exact H2_) | with_reducible exact H | (rw [hy319]; exact H) | exact H
 have Ny319 := Aside0.mk hy319
 clear hy319
 have H' := Aside0.mk H
 clear H
 go_enter Try.func17, Try.ntmps17
 go_wp2_with (first | ((with_reducible refine gate_dst (N := 4) rfl ?_); (try (refine gate_guard (by rfl) ?_; dsimp only)); refine bx_ (N := 4) #[.int .i64 a1_0, .int .i64 a1_1, .int .i64 a1_2] 26 ?_; intro gb309 hg w5 hbox hb; have n0_ := ak (below_step PB hb); have n1_ := ak (hbox); have n2_ := ak ((gz hg PB : w.heap.size ≤ gb309)); have n3_ := ak ((gz hg PB : w.heap.size ≤ gb309)); clear HB; have HB := n0_; have BK309 := n1_; have GW309 := n2_; have GE309 := n3_; clear n0_ n1_ n2_ n3_; clear hb hbox hg) | ((with_reducible refine gate_dst (N := 6) rfl ?_); (try (refine gate_guard (by rfl) ?_; dsimp only)); refine bx_ (N := 6) #[.int .i64 0, .slice none 0 0, .int .i64 0, .int .i64 0, .int .i64 0] 31 ?_; intro gb310 hg w6 hbox hb; have n0_ := ak (kb BK309 hb); have n1_ := ak (below_step PB hb); have n2_ := ak (hbox); have n3_ := ak ((gz hg PB : w.heap.size ≤ gb310)); have n4_ := ak ((gz hg PB : w.heap.size ≤ gb310)); have n5_ := ak ((gl hg BK309 : gb309 ≠ gb310)); have n6_ := ak (((gl hg BK309).symm : gb310 ≠ gb309)); clear BK309 HB; have BK309 := n0_; have HB := n1_; have BK310 := n2_; have GW310 := n3_; have GE310 := n4_; have NB309_310 := n5_; have NB310_309 := n6_; clear n0_ n1_ n2_ n3_ n4_ n5_ n6_; clear hb hbox hg; have hnb7 := NB309_310.out; have hnc7 := NB310_309.out; have hcz8_0 : w6.cell? ⟨gb309, 0, none⟩ = some (.int .i64 a1_0) := (blk_cell BK309.out 0).trans rfl; have hcz8_1 : w6.cell? ⟨gb309, 1, none⟩ = some (.int .i64 a1_1) := (blk_cell BK309.out 1).trans rfl; have hcz8_2 : w6.cell? ⟨gb309, 2, none⟩ = some (.int .i64 a1_2) := (blk_cell BK309.out 2).trans rfl; have hfz8_0 := blk_frozen BK309.out 0; have hfz8_1 := blk_frozen BK309.out 1; have hfz8_2 := blk_frozen BK309.out 2) | ((with_reducible refine gate_callee (f := 12) rfl ?_); refine goesL_ (some 13) rfl rfl Try.func12 KR rfl #[.slice A0 l0.length c0, .agg #[.int .i64 a1_0, .int .i64 a1_1, .int .i64 a1_2], .int .i64 a2] rfl AR ?_; (with_reducible refine (impl_AnswerAt.calls k _ _ l0 a1_0 a1_1 a1_2 a2 t311 t312 t315 t316 t317 _ ?side1 ?side2 A4.out).mono ?_); (case side1 => repeat (first | exact (Kd.C_below HR0.out HB.out) | (with_reducible refine Kd.C_alloc ?_ _) | (with_reducible refine Kd.C_drewN ?_ _) | (with_reducible refine Kd.C_drew ?_))); (case side2 => exact HC0.out); rintro e w9 ⟨v313, rfl, ho0, hb⟩; refine ⟨_, rfl, ?_⟩; have n0_ := ak (Kd.R_lower ho0 (below_size PB)); have n1_ := ak (kb BK309 hb); have n2_ := ak (kb BK310 hb); have n3_ := ak (below_step PB hb); clear BK309 BK310 HB; have HO314 := n0_; have BK309 := n1_; have BK310 := n2_; have HB := n3_; clear n0_ n1_ n2_ n3_; (try clear hb); (try clear hb2); (try clear hk); (try clear hi); (try clear ho0)) | ((with_reducible refine gate_dst (N := 8) rfl ?_); (try (refine gate_guard (by rfl) ?_; dsimp only)); refine bx_ (N := 8) #[.int .i64 0, .slice none 0 0, .int .i64 0, .int .i64 0, .int .i64 0] 31 ?_; intro gb318 hg w10 hbox hb; have n0_ := ak (Kd.R_below (PR HO314) hb); have n1_ := ak (kb BK309 hb); have n2_ := ak (kb BK310 hb); have n3_ := ak (below_step PB hb); have n4_ := ak (hbox); have n5_ := ak ((gz hg PB : w.heap.size ≤ gb318)); have n6_ := ak ((gz hg PB : w.heap.size ≤ gb318)); have n7_ := ak ((gl hg BK309 : gb309 ≠ gb318)); have n8_ := ak (((gl hg BK309).symm : gb318 ≠ gb309)); have n9_ := ak ((gl hg BK310 : gb310 ≠ gb318)); have n10_ := ak (((gl hg BK310).symm : gb318 ≠ gb310)); clear HO314 BK309 BK310 HB; have HO314 := n0_; have BK309 := n1_; have BK310 := n2_; have HB := n3_; have BK318 := n4_; have GW318 := n5_; have GE318 := n6_; have NB309_318 := n7_; have NB318_309 := n8_; have NB310_318 := n9_; have NB318_310 := n10_; clear n0_ n1_ n2_ n3_ n4_ n5_ n6_ n7_ n8_ n9_ n10_; clear hb hbox hg; have hnb11 := NB318_309.out; have hnc11 := NB309_318.out; have hnb12 := NB318_310.out; have hnc12 := NB310_318.out; have hcz13_0 : w10.cell? ⟨gb318, 0, none⟩ = some (.int .i64 0) := (blk_cell BK318.out 0).trans rfl; have hcz13_1 : w10.cell? ⟨gb318, 1, none⟩ = some (.slice none 0 0) := (blk_cell BK318.out 1).trans rfl; have hcz13_2 : w10.cell? ⟨gb318, 2, none⟩ = some (.int .i64 0) := (blk_cell BK318.out 2).trans rfl; have hcz13_3 : w10.cell? ⟨gb318, 3, none⟩ = some (.int .i64 0) := (blk_cell BK318.out 3).trans rfl; have hcz13_4 : w10.cell? ⟨gb318, 4, none⟩ = some (.int .i64 0) := (blk_cell BK318.out 4).trans rfl; have hfz13_0 := blk_frozen BK318.out 0; have hfz13_1 := blk_frozen BK318.out 1; have hfz13_2 := blk_frozen BK318.out 2; have hfz13_3 := blk_frozen BK318.out 3; have hfz13_4 := blk_frozen BK318.out 4; obtain ⟨Ao14, co14, eo14⟩ := Kd.R_slice HO314.out; subst eo14; have hcz15_0 : w10.cell? ⟨gb309, 0, none⟩ = some (.int .i64 a1_0) := (blk_cell BK309.out 0).trans rfl; have hcz15_1 : w10.cell? ⟨gb309, 1, none⟩ = some (.int .i64 a1_1) := (blk_cell BK309.out 1).trans rfl; have hcz15_2 : w10.cell? ⟨gb309, 2, none⟩ = some (.int .i64 a1_2) := (blk_cell BK309.out 2).trans rfl; have hfz15_0 := blk_frozen BK309.out 0; have hfz15_1 := blk_frozen BK309.out 1; have hfz15_2 := blk_frozen BK309.out 2) | ((with_reducible refine gate_dst (N := 15) rfl ?_); (try (refine gate_guard (by rfl) ?_; dsimp only)); refine Kd.R_lit k26 _ 26 ?hg (N := 15) ?hd (xs := ([(⟨a1_0, a1_1, a1_2⟩ : S26)] : List (S26))) (inner := [.int .i64 a1_0, .int .i64 a1_1, .int .i64 a1_2]) (ok := fun _ => True) (okp := fun _ => True) ?hr ?hp (fun _ hk => hk) trivial (Below.refl _ _) (Nat.le_refl _) (by simp) ?_; (case hd => rfl); (case hg => rfl); (case hr => first | (go_simp; done) | (go_simp; rfl)); (case hp => exact (Reps.c3 (show Kd.M k26 _ _ _ (⟨a1_0, a1_1, a1_2⟩ : S26) [.int .i64 a1_0, .int .i64 a1_1, .int .i64 a1_2] from (k26_mkM _ _ _ (⟨a1_0, a1_1, a1_2⟩ : S26) )) (Reps.none _ _))); intro v320 w16 ho17 hb hg_ hnew_; clear hg_ hnew_; (first | rw [← Ny319.out] at ho17 | (simp only [Int.reduceToNat] at ho17; rw [← Ny319.out] at ho17)); have n0_ := ak (Kd.R_below (by (with_reducible repeat (first | apply Kd.R_alloc | apply Kd.R_drewN | apply Kd.R_drew)); exact (Kd.R_mono (Kd.R_far (p := ⟨gb318, 4, none⟩) (Kd.R_far (p := ⟨gb318, 3, none⟩) (Kd.R_far (p := ⟨gb318, 2, none⟩) (Kd.R_far (p := ⟨gb318, 1, none⟩) (Kd.R_far (p := ⟨gb318, 0, none⟩) (Kd.R_types HO314.out BK318.out (by decide)) FK (.int .i64 t311)) FK (.slice Ao14 t312.length co14)) FK (.int .i64 t315)) FK (.int .i64 t316)) FK (.int .i64 t317)) (fun _ h_ => h_.1))) hb); have n1_ := ak (Kd.R_lower (Kd.R_newB ho17 (g := gb309) (o := .cells #[.int .i64 a1_0, .int .i64 a1_1, .int .i64 a1_2] 26 (0, 0)) (PF BK309)) (below_size PB)); have n2_ := ak (blk_below (g := gb309) (o := .cells #[.int .i64 a1_0, .int .i64 a1_1, .int .i64 a1_2] 26 (0, 0)) (PF BK309) hb); have n3_ := ak (blk_below (g := gb310) (o := .cells #[.int .i64 0, .slice none 0 0, .int .i64 0, .int .i64 0, .int .i64 0] 31 (0, 0)) (PF BK310) hb); have n4_ := ak (blk_below (g := gb318) (o := .cells #[.int .i64 t311, .slice Ao14 t312.length co14, .int .i64 t315, .int .i64 t316, .int .i64 t317] 31 (0, 0)) (by (with_reducible repeat (first | refine blk_drewN ?_ _ | refine blk_drew ?_ | refine blk_alloc ?_ _)); refine blk_put (cs := #[.int .i64 t311, .slice Ao14 t312.length co14, .int .i64 t315, .int .i64 t316, .int .i64 0]) ?_ 4 _ rfl; (with_reducible repeat (first | refine blk_drewN ?_ _ | refine blk_drew ?_ | refine blk_alloc ?_ _)); refine blk_put (cs := #[.int .i64 t311, .slice Ao14 t312.length co14, .int .i64 t315, .int .i64 0, .int .i64 0]) ?_ 3 _ rfl; (with_reducible repeat (first | refine blk_drewN ?_ _ | refine blk_drew ?_ | refine blk_alloc ?_ _)); refine blk_put (cs := #[.int .i64 t311, .slice Ao14 t312.length co14, .int .i64 0, .int .i64 0, .int .i64 0]) ?_ 2 _ rfl; (with_reducible repeat (first | refine blk_drewN ?_ _ | refine blk_drew ?_ | refine blk_alloc ?_ _)); refine blk_put (cs := #[.int .i64 t311, .slice none 0 0, .int .i64 0, .int .i64 0, .int .i64 0]) ?_ 1 _ rfl; (with_reducible repeat (first | refine blk_drewN ?_ _ | refine blk_drew ?_ | refine blk_alloc ?_ _)); refine blk_put (cs := #[.int .i64 0, .slice none 0 0, .int .i64 0, .int .i64 0, .int .i64 0]) ?_ 0 _ rfl; (with_reducible repeat (first | refine blk_drewN ?_ _ | refine blk_drew ?_ | refine blk_alloc ?_ _)); exact BK318.out) hb); have n5_ := ak (below_step PB hb); clear HO314 BK309 BK310 BK318 HB; have HO314 := n0_; have HO321 := n1_; have BK309 := n2_; have BK310 := n3_; have BK318 := n4_; have HB := n5_; clear n0_ n1_ n2_ n3_ n4_ n5_; clear hb ho17))
 go_loopg [9] k (fun kq v9 w' => ∃ (x9_1 : List (S26)) (x319000_1 : Int) (x319001_1 : List Int) (x319002_1 : Int) (x319003_1 : Int) (x319004_1 : Int) (u319001 : Value), Aside0 (impl_FollowAt.l0 kq l0 a2 x9_1 x319000_1 x319001_1 x319002_1 x319003_1 x319004_1 = some (r1, r2, r3, r4, r5, r6)) ∧ Aside0 (kq ≤ k) ∧ Aside0 (Kd.R k26 26 w' w.heap.size (fun k_ => k_ ≠ gb309) v9 x9_1) ∧ Aside0 (Kd.R (Kd.int .i64) 3 w' w.heap.size (fun _ => True) u319001 x319001_1) ∧ Aside0 (w'.heap[gb309]? = some (.cells #[.int .i64 a1_0, .int .i64 a1_1, .int .i64 a1_2] 26 (0, 0))) ∧ Aside0 (w'.heap[gb310]? = some (.cells #[.int .i64 0, (.slice none 0 0), .int .i64 0, .int .i64 0, .int .i64 0] 31 (0, 0))) ∧ Aside0 (w'.heap[gb318]? = some (.cells #[.int .i64 x319000_1, u319001, .int .i64 x319002_1, .int .i64 x319003_1, .int .i64 x319004_1] 31 (0, 0))) ∧ Aside0 (Below w.heap.size w w'))
 case atStart => exact ⟨(y319), (t311), (t312), (t315), (t316), (t317), (.slice Ao14 t312.length co14), H', ⟨Nat.le_refl _⟩, ⟨by (with_reducible repeat (first | apply Kd.R_alloc | apply Kd.R_drewN | apply Kd.R_drew)); exact Kd.R_mono HO321.out FK⟩, ⟨PR HO314⟩, ⟨PK BK309⟩, ⟨PK BK310⟩, ⟨PK BK318⟩, ⟨PB⟩⟩
 case round =>
  clear H'
  (try clear c1); (try clear p2); (try clear c3); (try clear c7); (try clear c11); (try clear c12); (try clear c17); (try clear hcz13_0); (try clear hcz13_1); (try clear hcz13_2); (try clear hcz13_3); (try clear hcz13_4); (try clear hcz15_0); (try clear hcz15_1); (try clear hcz15_2); (try clear hcz8_0); (try clear hcz8_1); (try clear hcz8_2); (try clear hfz13_0); (try clear hfz13_1); (try clear hfz13_2); (try clear hfz13_3); (try clear hfz13_4); (try clear hfz15_0); (try clear hfz15_1); (try clear hfz15_2); (try clear hfz8_0); (try clear hfz8_1); (try clear hfz8_2)
  obtain ⟨x9_1, x319000_1, x319001_1, x319002_1, x319003_1, x319004_1, u319001, HA, HK1, HO_9, HO_319001, BK309, BK310, BK318, HB⟩ := hrel
  cases gk with
  | zero => exact absurd HA.out (by simp [impl_FollowAt.l0])
  | succ k1 =>
   have H := HA.out
   clear HA
   simp only [impl_FollowAt.l0] at H
   by_cases c18 : x319000_1 = 3
   ·rw [if_pos c18] at H
    have c18b0 : (x319000_1 == 3) = true := beq_iff_eq.mpr c18
    have c18b1 : (x319000_1 != 3) = false := bne_eq_false_iff_eq.mpr c18
    clear c18
    by_cases c19 : (x9_1.length : Int) ≤ 4
    ·rw [if_pos c19] at H
     have c19b0 : decide ((x9_1.length : Int) ≤ 4) = true := decide_eq_true c19
     have c19b1 : decide (x9_1.length ≤ 4) = true := decide_eq_true (by omega)
     clear c19
     replace H := Option.bind_eq_some_iff.mp H
     obtain ⟨t322, A200, H⟩ := H
     replace H : (if t322 = true then (some (x319000_1, x319001_1, x319002_1, x319003_1, x319004_1, x9_1)) else (if x9_1.length < 5864062014805 then ((impl_AnswerAt.f k1 l0 x319002_1 x319003_1 x319004_1 a2).bind fun bt326 => (impl_FollowAt.l0 k1 l0 a2 (x9_1 ++ [(⟨x319002_1, x319003_1, x319004_1⟩ : S26)]) bt326.1 bt326.2.1 bt326.2.2.1 bt326.2.2.2.1 bt326.2.2.2.2)) else (none))) = some (r1, r2, r3, r4, r5, r6) := H
     have A20 := Aside0.mk A200
     clear A200
     by_cases c21 : t322 = true
     ·subst c21
      have H1 : (some (x319000_1, x319001_1, x319002_1, x319003_1, x319004_1, x9_1)) = some (r1, r2, r3, r4, r5, r6) := by rw [if_pos rfl] at H; exact H
      clear H
      have H := H1
      clear H1
      simp only [Option.some.injEq, Prod.mk.injEq] at H
      obtain ⟨rfl, rfl, rfl, rfl, rfl, rfl⟩ := H
      have hnb22 := NB318_309.out
      have hnc22 := NB309_318.out
      have hnb23 := NB318_310.out
      have hnc23 := NB310_318.out
      have hcz24_0 : wr.cell? ⟨gb318, 0, none⟩ = some (.int .i64 x319000_1) := (blk_cell BK318.out 0).trans rfl
      have hcz24_1 : wr.cell? ⟨gb318, 1, none⟩ = some (u319001) := (blk_cell BK318.out 1).trans rfl
      have hcz24_2 : wr.cell? ⟨gb318, 2, none⟩ = some (.int .i64 x319002_1) := (blk_cell BK318.out 2).trans rfl
      have hcz24_3 : wr.cell? ⟨gb318, 3, none⟩ = some (.int .i64 x319003_1) := (blk_cell BK318.out 3).trans rfl
      have hcz24_4 : wr.cell? ⟨gb318, 4, none⟩ = some (.int .i64 x319004_1) := (blk_cell BK318.out 4).trans rfl
      have hfz24_0 := blk_frozen BK318.out 0
      have hfz24_1 := blk_frozen BK318.out 1
      have hfz24_2 := blk_frozen BK318.out 2
      have hfz24_3 := blk_frozen BK318.out 3
      have hfz24_4 := blk_frozen BK318.out 4
      obtain ⟨Ao25, co25, eo25⟩ := Kd.R_slice HO_9.out
      subst eo25
      go_wp2_with (first | (go_at_call 63; (with_reducible refine (impl_Address_63.calls k1 _ _ x9_1 x319002_1 x319003_1 x319004_1 true _ ?side1 ?side2 A20.out).mono ?_); (case side1 => exact CR ((Kd.R_reads' HO_9.out).2.2)); (case side2 => exact (Kd.R_reads' HO_9.out).2.1); rintro e w26 ⟨rfl, hb⟩; have n0_ := ak (Kd.R_below (PR HO_9) hb); have n1_ := ak (Kd.R_below (PR HO_319001) hb); have n2_ := ak (kb BK309 hb); have n3_ := ak (kb BK310 hb); have n4_ := ak (kb BK318 hb); have n5_ := ak (below_step PB hb); clear HO_9 HO_319001 BK309 BK310 BK318 HB; have HO_9 := n0_; have HO_319001 := n1_; have BK309 := n2_; have BK310 := n3_; have BK318 := n4_; have HB := n5_; clear n0_ n1_ n2_ n3_ n4_ n5_; (try clear hb); (try clear hb2); (try clear hk); (try clear hi); have hcz27_0 : w26.cell? ⟨gb318, 0, none⟩ = some (.int .i64 x319000_1) := (blk_cell BK318.out 0).trans rfl; have hcz27_1 : w26.cell? ⟨gb318, 1, none⟩ = some (u319001) := (blk_cell BK318.out 1).trans rfl; have hcz27_2 : w26.cell? ⟨gb318, 2, none⟩ = some (.int .i64 x319002_1) := (blk_cell BK318.out 2).trans rfl; have hcz27_3 : w26.cell? ⟨gb318, 3, none⟩ = some (.int .i64 x319003_1) := (blk_cell BK318.out 3).trans rfl; have hcz27_4 : w26.cell? ⟨gb318, 4, none⟩ = some (.int .i64 x319004_1) := (blk_cell BK318.out 4).trans rfl; have hfz27_0 := blk_frozen BK318.out 0; have hfz27_1 := blk_frozen BK318.out 1; have hfz27_2 := blk_frozen BK318.out 2; have hfz27_3 := blk_frozen BK318.out 3; have hfz27_4 := blk_frozen BK318.out 4; have hnb28 := NB310_309.out; have hnc28 := NB309_310.out; have hcz29_0 : w26.cell? ⟨gb310, 0, none⟩ = some (.int .i64 0) := (blk_cell BK310.out 0).trans rfl; have hcz29_1 : w26.cell? ⟨gb310, 1, none⟩ = some (.slice none 0 0) := (blk_cell BK310.out 1).trans rfl; have hcz29_2 : w26.cell? ⟨gb310, 2, none⟩ = some (.int .i64 0) := (blk_cell BK310.out 2).trans rfl; have hcz29_3 : w26.cell? ⟨gb310, 3, none⟩ = some (.int .i64 0) := (blk_cell BK310.out 3).trans rfl; have hcz29_4 : w26.cell? ⟨gb310, 4, none⟩ = some (.int .i64 0) := (blk_cell BK310.out 4).trans rfl; have hfz29_0 := blk_frozen BK310.out 0; have hfz29_1 := blk_frozen BK310.out 1; have hfz29_2 := blk_frozen BK310.out 2; have hfz29_3 := blk_frozen BK310.out 3; have hfz29_4 := blk_frozen BK310.out 4; obtain ⟨Ao30, co30, eo30⟩ := Kd.R_slice HO_319001.out; subst eo30))
      refine bodyPost_ret (results_ct rfl _ _ gb310 31 #[.int .i64 x319000_1, .slice Ao30 x319001_1.length co30, .int .i64 x319002_1, .int .i64 x319003_1, .int .i64 x319004_1] (0, 0) _ rfl (by (with_reducible repeat (first | refine blk_drewN ?_ _ | refine blk_drew ?_ | refine blk_alloc ?_ _)); refine blk_put (cs := #[.int .i64 x319000_1, .slice Ao30 x319001_1.length co30, .int .i64 x319002_1, .int .i64 x319003_1, .int .i64 0]) ?_ 4 _ rfl; (with_reducible repeat (first | refine blk_drewN ?_ _ | refine blk_drew ?_ | refine blk_alloc ?_ _)); refine blk_put (cs := #[.int .i64 x319000_1, .slice Ao30 x319001_1.length co30, .int .i64 x319002_1, .int .i64 0, .int .i64 0]) ?_ 3 _ rfl; (with_reducible repeat (first | refine blk_drewN ?_ _ | refine blk_drew ?_ | refine blk_alloc ?_ _)); refine blk_put (cs := #[.int .i64 x319000_1, .slice Ao30 x319001_1.length co30, .int .i64 0, .int .i64 0, .int .i64 0]) ?_ 2 _ rfl; (with_reducible repeat (first | refine blk_drewN ?_ _ | refine blk_drew ?_ | refine blk_alloc ?_ _)); refine blk_put (cs := #[.int .i64 x319000_1, .slice none 0 0, .int .i64 0, .int .i64 0, .int .i64 0]) ?_ 1 _ rfl; (with_reducible repeat (first | refine blk_drewN ?_ _ | refine blk_drew ?_ | refine blk_alloc ?_ _)); refine blk_put (cs := #[.int .i64 0, .slice none 0 0, .int .i64 0, .int .i64 0, .int .i64 0]) ?_ 0 _ rfl; (with_reducible repeat (first | refine blk_drewN ?_ _ | refine blk_drew ?_ | refine blk_alloc ?_ _)); exact BK310.out) Try.underlying31 rfl KR) rfl ?_
      exact ⟨_, _, RT, by (with_reducible repeat (first | apply Kd.R_alloc | apply Kd.R_drewN | apply Kd.R_drew)); exact Kd.R_mono (Kd.R_far (p := ⟨gb310, 4, none⟩) (Kd.R_far (p := ⟨gb310, 3, none⟩) (Kd.R_far (p := ⟨gb310, 2, none⟩) (Kd.R_far (p := ⟨gb310, 1, none⟩) (Kd.R_far (p := ⟨gb310, 0, none⟩) (Kd.R_types HO_319001.out BK310.out (by decide)) FK (.int .i64 x319000_1)) FK (.slice Ao30 x319001_1.length co30)) FK (.int .i64 x319002_1)) FK (.int .i64 x319003_1)) FK (.int .i64 x319004_1)) (fun _ hk => trivial), by (with_reducible repeat (first | apply Kd.R_alloc | apply Kd.R_drewN | apply Kd.R_drew)); exact Kd.R_mono (Kd.R_far (p := ⟨gb310, 4, none⟩) (Kd.R_far (p := ⟨gb310, 3, none⟩) (Kd.R_far (p := ⟨gb310, 2, none⟩) (Kd.R_far (p := ⟨gb310, 1, none⟩) (Kd.R_far (p := ⟨gb310, 0, none⟩) (Kd.R_types HO_9.out BK310.out (by decide)) FK (.int .i64 x319000_1)) FK (.slice Ao30 x319001_1.length co30)) FK (.int .i64 x319002_1)) FK (.int .i64 x319003_1)) FK (.int .i64 x319004_1)) (fun _ hk => trivial), PB⟩
     ·replace c21 := Bool.eq_false_iff.mpr c21
      subst c21
      have H1 : (if x9_1.length < 5864062014805 then ((impl_AnswerAt.f k1 l0 x319002_1 x319003_1 x319004_1 a2).bind fun bt326 => (impl_FollowAt.l0 k1 l0 a2 (x9_1 ++ [(⟨x319002_1, x319003_1, x319004_1⟩ : S26)]) bt326.1 bt326.2.1 bt326.2.2.1 bt326.2.2.2.1 bt326.2.2.2.2)) else (none)) = some (r1, r2, r3, r4, r5, r6) := by rw [if_neg (show ¬ (false = true) by decide)] at H; exact H
      clear H
      have H := H1
      clear H1
      by_cases c31 : x9_1.length < 5864062014805
      ·rw [if_pos c31] at H
       have LMc31 := Aside0.mk c31
       clear c31
       obtain ⟨y323, hy323⟩ : ∃ y_ : List (S26), y_ = (x9_1 ++ [(⟨x319002_1, x319003_1, x319004_1⟩ : S26)]) := ⟨_, rfl⟩
       replace H : ((impl_AnswerAt.f k1 l0 x319002_1 x319003_1 x319004_1 a2).bind fun bt326 => (impl_FollowAt.l0 k1 l0 a2 y323 bt326.1 bt326.2.1 bt326.2.2.1 bt326.2.2.2.1 bt326.2.2.2.2)) = some (r1, r2, r3, r4, r5, r6) := by first | (rw [hy323]; with_reducible exact H) | (have H2_ := (Option.bind_some _ _).symm.trans H; rw [hy323]; with_reducible exact H2_) | (have H2_ := (Option.bind_some _ _).symm.trans H; with_reducible exact H2_) | with_reducible exact H | (rw [hy323]; exact H) | exact H
       have Ny323 := Aside0.mk hy323
       clear hy323
       replace H := Option.bind_eq_some_iff.mp H
       obtain ⟨⟨t326, t327, t330, t331, t332⟩, A320, H⟩ := H
       replace H : (impl_FollowAt.l0 k1 l0 a2 y323 t326 t327 t330 t331 t332) = some (r1, r2, r3, r4, r5, r6) := H
       have A32 := Aside0.mk A320
       clear A320
       have H' := Aside0.mk H
       clear H
       have hnb33 := NB318_309.out
       have hnc33 := NB309_318.out
       have hnb34 := NB318_310.out
       have hnc34 := NB310_318.out
       have hcz35_0 : wr.cell? ⟨gb318, 0, none⟩ = some (.int .i64 x319000_1) := (blk_cell BK318.out 0).trans rfl
       have hcz35_1 : wr.cell? ⟨gb318, 1, none⟩ = some (u319001) := (blk_cell BK318.out 1).trans rfl
       have hcz35_2 : wr.cell? ⟨gb318, 2, none⟩ = some (.int .i64 x319002_1) := (blk_cell BK318.out 2).trans rfl
       have hcz35_3 : wr.cell? ⟨gb318, 3, none⟩ = some (.int .i64 x319003_1) := (blk_cell BK318.out 3).trans rfl
       have hcz35_4 : wr.cell? ⟨gb318, 4, none⟩ = some (.int .i64 x319004_1) := (blk_cell BK318.out 4).trans rfl
       have hfz35_0 := blk_frozen BK318.out 0
       have hfz35_1 := blk_frozen BK318.out 1
       have hfz35_2 := blk_frozen BK318.out 2
       have hfz35_3 := blk_frozen BK318.out 3
       have hfz35_4 := blk_frozen BK318.out 4
       obtain ⟨Ao36, co36, eo36⟩ := Kd.R_slice HO_9.out
       subst eo36
       go_wp2_with (first | (go_at_call 63; (with_reducible refine (impl_Address_63.calls k1 _ _ x9_1 x319002_1 x319003_1 x319004_1 false _ ?side1 ?side2 A20.out).mono ?_); (case side1 => exact CR ((Kd.R_reads' HO_9.out).2.2)); (case side2 => exact (Kd.R_reads' HO_9.out).2.1); rintro e w37 ⟨rfl, hb⟩; have n0_ := ak (Kd.R_below (PR HO_9) hb); have n1_ := ak (Kd.R_below (PR HO_319001) hb); have n2_ := ak (kb BK309 hb); have n3_ := ak (kb BK310 hb); have n4_ := ak (kb BK318 hb); have n5_ := ak (below_step PB hb); clear HO_9 HO_319001 BK309 BK310 BK318 HB; have HO_9 := n0_; have HO_319001 := n1_; have BK309 := n2_; have BK310 := n3_; have BK318 := n4_; have HB := n5_; clear n0_ n1_ n2_ n3_ n4_ n5_; (try clear hb); (try clear hb2); (try clear hk); (try clear hi); have hcz38_0 : w37.cell? ⟨gb318, 0, none⟩ = some (.int .i64 x319000_1) := (blk_cell BK318.out 0).trans rfl; have hcz38_1 : w37.cell? ⟨gb318, 1, none⟩ = some (u319001) := (blk_cell BK318.out 1).trans rfl; have hcz38_2 : w37.cell? ⟨gb318, 2, none⟩ = some (.int .i64 x319002_1) := (blk_cell BK318.out 2).trans rfl; have hcz38_3 : w37.cell? ⟨gb318, 3, none⟩ = some (.int .i64 x319003_1) := (blk_cell BK318.out 3).trans rfl; have hcz38_4 : w37.cell? ⟨gb318, 4, none⟩ = some (.int .i64 x319004_1) := (blk_cell BK318.out 4).trans rfl; have hfz38_0 := blk_frozen BK318.out 0; have hfz38_1 := blk_frozen BK318.out 1; have hfz38_2 := blk_frozen BK318.out 2; have hfz38_3 := blk_frozen BK318.out 3; have hfz38_4 := blk_frozen BK318.out 4) | ((with_reducible refine gate_builtin (b := .append) (xs := #[.tmp 31, .tmp 34]) rfl ?_); (try (refine gate_guard (by rfl) ?_; dsimp only)); at_builtin; refine Kd.R_append k26 (w0 := w) w.heap.size rfl (.tmp 31) (.tmp 34) 36 26 (.agg #[(.int .i64 0), (.int .i64 0), (.int .i64 0)]) 24 rfl Try.underlying36 info26 rfl (by decide) (by omega) (.slice Ao36 x9_1.length co36) x9_1 (⟨x319002_1, x319003_1, x319004_1⟩ : S26) [.int .i64 x319002_1, .int .i64 x319003_1, .int .i64 x319004_1] (fun k_ => k_ ≠ gb309) (fun _ => False) rfl rfl ?aP (fun _ hk => hk.elim) ?aF ?aO ?aB ?aS ?aL ?_; (case aP => exact k26_mkM _ _ _ (⟨x319002_1, x319003_1, x319004_1⟩ : S26)); (case aB => exact PB); (case aF => exact (fun k_ hk => Kd.freshB (g := gb309) (o := .cells #[.int .i64 a1_0, .int .i64 a1_1, .int .i64 a1_2] 26 (0, 0)) (PK BK309) k_ hk)); (case aO => exact (PR HO_9)); (case aS => exact (below_size PB)); (case aL => have := LMc31.out; omega); intro v324 w39 ho hb hg hat; rw [← Ny323.out] at ho; have n0_ := ak (Kd.R_over' (PR HO_319001) (Kd.R_typed (PR HO_9)) (by decide) hg); have n1_ := ak (blk_grown (g := gb309) (o := .cells #[.int .i64 a1_0, .int .i64 a1_1, .int .i64 a1_2] 26 (0, 0)) (PK BK309) hg (Kd.R_away HO_9.out (fun _ hk => hk))); have n2_ := ak (blk_grown (g := gb310) (o := .cells #[.int .i64 0, .slice none 0 0, .int .i64 0, .int .i64 0, .int .i64 0] 31 (0, 0)) (PK BK310) hg (Kd.R_ne HO_9.out BK310.out (by decide))); have n3_ := ak (blk_grown (g := gb318) (o := .cells #[.int .i64 x319000_1, u319001, .int .i64 x319002_1, .int .i64 x319003_1, .int .i64 x319004_1] 31 (0, 0)) (PK BK318) hg (Kd.R_ne HO_9.out BK318.out (by decide))); have n4_ := ak (hb); have n5_ := ak (ho); clear HO_319001 BK309 BK310 BK318 HB HO_9; have HO_319001 := n0_; have BK309 := n1_; have BK310 := n2_; have BK318 := n3_; have HB := n4_; have HO325 := n5_; clear n0_ n1_ n2_ n3_ n4_ n5_; clear ho hb hg hat; have hcz40_0 : w39.cell? ⟨gb318, 0, none⟩ = some (.int .i64 x319000_1) := (blk_cell BK318.out 0).trans rfl; have hcz40_1 : w39.cell? ⟨gb318, 1, none⟩ = some (u319001) := (blk_cell BK318.out 1).trans rfl; have hcz40_2 : w39.cell? ⟨gb318, 2, none⟩ = some (.int .i64 x319002_1) := (blk_cell BK318.out 2).trans rfl; have hcz40_3 : w39.cell? ⟨gb318, 3, none⟩ = some (.int .i64 x319003_1) := (blk_cell BK318.out 3).trans rfl; have hcz40_4 : w39.cell? ⟨gb318, 4, none⟩ = some (.int .i64 x319004_1) := (blk_cell BK318.out 4).trans rfl; have hfz40_0 := blk_frozen BK318.out 0; have hfz40_1 := blk_frozen BK318.out 1; have hfz40_2 := blk_frozen BK318.out 2; have hfz40_3 := blk_frozen BK318.out 3; have hfz40_4 := blk_frozen BK318.out 4) | ((with_reducible refine gate_callee (f := 12) rfl ?_); refine goesL_ (some 40) rfl rfl Try.func12 KR rfl #[.slice A0 l0.length c0, .agg #[.int .i64 x319002_1, .int .i64 x319003_1, .int .i64 x319004_1], .int .i64 a2] rfl AR ?_; (with_reducible refine (impl_AnswerAt.calls k1 _ _ l0 x319002_1 x319003_1 x319004_1 a2 t326 t327 t330 t331 t332 _ ?side1 ?side2 A32.out).mono ?_); (case side1 => repeat (first | exact (Kd.C_below HR0.out HB.out) | (with_reducible refine Kd.C_alloc ?_ _) | (with_reducible refine Kd.C_drewN ?_ _) | (with_reducible refine Kd.C_drew ?_))); (case side2 => exact HC0.out); rintro e w41 ⟨v328, rfl, ho0, hb⟩; refine ⟨_, rfl, ?_⟩; have n0_ := ak (Kd.R_elder' (PR HO_319001) (Kd.R_base ho0) hb); have n1_ := ak (Kd.R_below (PR HO325) hb); have n2_ := ak (Kd.R_lower (Kd.R_new' ho0 (Kd.R_lt (PR HO_319001))) (below_size PB)); have n3_ := ak (kb BK309 hb); have n4_ := ak (kb BK310 hb); have n5_ := ak (kb BK318 hb); have n6_ := ak (below_step PB hb); clear HO_319001 HO325 BK309 BK310 BK318 HB; have HO_319001 := n0_; have HO325 := n1_; have HO329 := n2_; have BK309 := n3_; have BK310 := n4_; have BK318 := n5_; have HB := n6_; clear n0_ n1_ n2_ n3_ n4_ n5_ n6_; (try clear hb); (try clear hb2); (try clear hk); (try clear hi); (try clear ho0); have hcz42_0 : w41.cell? ⟨gb318, 0, none⟩ = some (.int .i64 x319000_1) := (blk_cell BK318.out 0).trans rfl; have hcz42_1 : w41.cell? ⟨gb318, 1, none⟩ = some (u319001) := (blk_cell BK318.out 1).trans rfl; have hcz42_2 : w41.cell? ⟨gb318, 2, none⟩ = some (.int .i64 x319002_1) := (blk_cell BK318.out 2).trans rfl; have hcz42_3 : w41.cell? ⟨gb318, 3, none⟩ = some (.int .i64 x319003_1) := (blk_cell BK318.out 3).trans rfl; have hcz42_4 : w41.cell? ⟨gb318, 4, none⟩ = some (.int .i64 x319004_1) := (blk_cell BK318.out 4).trans rfl; have hfz42_0 := blk_frozen BK318.out 0; have hfz42_1 := blk_frozen BK318.out 1; have hfz42_2 := blk_frozen BK318.out 2; have hfz42_3 := blk_frozen BK318.out 3; have hfz42_4 := blk_frozen BK318.out 4; obtain ⟨Ao43, co43, eo43⟩ := Kd.R_slice HO329.out; subst eo43))
       go_roundg k1
       case measure => have := HK1.out; omega
       case rel => exact ⟨(y323), (t326), (t327), (t330), (t331), (t332), (.slice Ao43 t327.length co43), H', ⟨by have := HK1.out; omega⟩, ⟨by (with_reducible repeat (first | apply Kd.R_alloc | apply Kd.R_drewN | apply Kd.R_drew)); exact Kd.R_mono (Kd.R_far (p := ⟨gb318, 4, none⟩) (Kd.R_far (p := ⟨gb318, 3, none⟩) (Kd.R_far (p := ⟨gb318, 2, none⟩) (Kd.R_far (p := ⟨gb318, 1, none⟩) (Kd.R_far (p := ⟨gb318, 0, none⟩) (Kd.R_types HO325.out BK318.out (by decide)) FK (.int .i64 t326)) FK (.slice Ao43 t327.length co43)) FK (.int .i64 t330)) FK (.int .i64 t331)) FK (.int .i64 t332)) (fun _ hk => by first | exact hk.1 | simp_all)⟩, ⟨by (with_reducible repeat (first | apply Kd.R_alloc | apply Kd.R_drewN | apply Kd.R_drew)); exact Kd.R_mono (Kd.R_far (p := ⟨gb318, 4, none⟩) (Kd.R_far (p := ⟨gb318, 3, none⟩) (Kd.R_far (p := ⟨gb318, 2, none⟩) (Kd.R_far (p := ⟨gb318, 1, none⟩) (Kd.R_far (p := ⟨gb318, 0, none⟩) (Kd.R_types HO329.out BK318.out (by decide)) FK (.int .i64 t326)) FK (.slice Ao43 t327.length co43)) FK (.int .i64 t330)) FK (.int .i64 t331)) FK (.int .i64 t332)) (fun _ hk => trivial)⟩, ⟨PF BK309⟩, ⟨PF BK310⟩, ⟨by (with_reducible repeat (first | refine blk_drewN ?_ _ | refine blk_drew ?_ | refine blk_alloc ?_ _)); refine blk_put (cs := #[.int .i64 t326, .slice Ao43 t327.length co43, .int .i64 t330, .int .i64 t331, .int .i64 x319004_1]) ?_ 4 _ rfl; (with_reducible repeat (first | refine blk_drewN ?_ _ | refine blk_drew ?_ | refine blk_alloc ?_ _)); refine blk_put (cs := #[.int .i64 t326, .slice Ao43 t327.length co43, .int .i64 t330, .int .i64 x319003_1, .int .i64 x319004_1]) ?_ 3 _ rfl; (with_reducible repeat (first | refine blk_drewN ?_ _ | refine blk_drew ?_ | refine blk_alloc ?_ _)); refine blk_put (cs := #[.int .i64 t326, .slice Ao43 t327.length co43, .int .i64 x319002_1, .int .i64 x319003_1, .int .i64 x319004_1]) ?_ 2 _ rfl; (with_reducible repeat (first | refine blk_drewN ?_ _ | refine blk_drew ?_ | refine blk_alloc ?_ _)); refine blk_put (cs := #[.int .i64 t326, u319001, .int .i64 x319002_1, .int .i64 x319003_1, .int .i64 x319004_1]) ?_ 1 _ rfl; (with_reducible repeat (first | refine blk_drewN ?_ _ | refine blk_drew ?_ | refine blk_alloc ?_ _)); refine blk_put (cs := #[.int .i64 x319000_1, u319001, .int .i64 x319002_1, .int .i64 x319003_1, .int .i64 x319004_1]) ?_ 0 _ rfl; (with_reducible repeat (first | refine blk_drewN ?_ _ | refine blk_drew ?_ | refine blk_alloc ?_ _)); exact BK318.out⟩, ⟨PB⟩⟩
      ·rw [if_neg c31] at H
       exact absurd H (by simp)
    ·rw [if_neg c19] at H
     have c19b0 : decide ((x9_1.length : Int) ≤ 4) = false := decide_eq_false c19
     have c19b1 : decide (x9_1.length ≤ 4) = false := decide_eq_false (by omega)
     clear c19
     simp only [Option.some.injEq, Prod.mk.injEq] at H
     obtain ⟨rfl, rfl, rfl, rfl, rfl, rfl⟩ := H
     have hnb44 := NB318_309.out
     have hnc44 := NB309_318.out
     have hnb45 := NB318_310.out
     have hnc45 := NB310_318.out
     have hcz46_0 : wr.cell? ⟨gb318, 0, none⟩ = some (.int .i64 x319000_1) := (blk_cell BK318.out 0).trans rfl
     have hcz46_1 : wr.cell? ⟨gb318, 1, none⟩ = some (u319001) := (blk_cell BK318.out 1).trans rfl
     have hcz46_2 : wr.cell? ⟨gb318, 2, none⟩ = some (.int .i64 x319002_1) := (blk_cell BK318.out 2).trans rfl
     have hcz46_3 : wr.cell? ⟨gb318, 3, none⟩ = some (.int .i64 x319003_1) := (blk_cell BK318.out 3).trans rfl
     have hcz46_4 : wr.cell? ⟨gb318, 4, none⟩ = some (.int .i64 x319004_1) := (blk_cell BK318.out 4).trans rfl
     have hfz46_0 := blk_frozen BK318.out 0
     have hfz46_1 := blk_frozen BK318.out 1
     have hfz46_2 := blk_frozen BK318.out 2
     have hfz46_3 := blk_frozen BK318.out 3
     have hfz46_4 := blk_frozen BK318.out 4
     obtain ⟨Ao47, co47, eo47⟩ := Kd.R_slice HO_9.out
     subst eo47
     have hnb48 := NB310_309.out
     have hnc48 := NB309_310.out
     have hcz49_0 : wr.cell? ⟨gb310, 0, none⟩ = some (.int .i64 0) := (blk_cell BK310.out 0).trans rfl
     have hcz49_1 : wr.cell? ⟨gb310, 1, none⟩ = some (.slice none 0 0) := (blk_cell BK310.out 1).trans rfl
     have hcz49_2 : wr.cell? ⟨gb310, 2, none⟩ = some (.int .i64 0) := (blk_cell BK310.out 2).trans rfl
     have hcz49_3 : wr.cell? ⟨gb310, 3, none⟩ = some (.int .i64 0) := (blk_cell BK310.out 3).trans rfl
     have hcz49_4 : wr.cell? ⟨gb310, 4, none⟩ = some (.int .i64 0) := (blk_cell BK310.out 4).trans rfl
     have hfz49_0 := blk_frozen BK310.out 0
     have hfz49_1 := blk_frozen BK310.out 1
     have hfz49_2 := blk_frozen BK310.out 2
     have hfz49_3 := blk_frozen BK310.out 3
     have hfz49_4 := blk_frozen BK310.out 4
     obtain ⟨Ao50, co50, eo50⟩ := Kd.R_slice HO_319001.out
     subst eo50
     go_wp2
     refine bodyPost_ret (results_ct rfl _ _ gb310 31 #[.int .i64 x319000_1, .slice Ao50 x319001_1.length co50, .int .i64 x319002_1, .int .i64 x319003_1, .int .i64 x319004_1] (0, 0) _ rfl (by (with_reducible repeat (first | refine blk_drewN ?_ _ | refine blk_drew ?_ | refine blk_alloc ?_ _)); refine blk_put (cs := #[.int .i64 x319000_1, .slice Ao50 x319001_1.length co50, .int .i64 x319002_1, .int .i64 x319003_1, .int .i64 0]) ?_ 4 _ rfl; (with_reducible repeat (first | refine blk_drewN ?_ _ | refine blk_drew ?_ | refine blk_alloc ?_ _)); refine blk_put (cs := #[.int .i64 x319000_1, .slice Ao50 x319001_1.length co50, .int .i64 x319002_1, .int .i64 0, .int .i64 0]) ?_ 3 _ rfl; (with_reducible repeat (first | refine blk_drewN ?_ _ | refine blk_drew ?_ | refine blk_alloc ?_ _)); refine blk_put (cs := #[.int .i64 x319000_1, .slice Ao50 x319001_1.length co50, .int .i64 0, .int .i64 0, .int .i64 0]) ?_ 2 _ rfl; (with_reducible repeat (first | refine blk_drewN ?_ _ | refine blk_drew ?_ | refine blk_alloc ?_ _)); refine blk_put (cs := #[.int .i64 x319000_1, .slice none 0 0, .int .i64 0, .int .i64 0, .int .i64 0]) ?_ 1 _ rfl; (with_reducible repeat (first | refine blk_drewN ?_ _ | refine blk_drew ?_ | refine blk_alloc ?_ _)); refine blk_put (cs := #[.int .i64 0, .slice none 0 0, .int .i64 0, .int .i64 0, .int .i64 0]) ?_ 0 _ rfl; (with_reducible repeat (first | refine blk_drewN ?_ _ | refine blk_drew ?_ | refine blk_alloc ?_ _)); exact BK310.out) Try.underlying31 rfl KR) rfl ?_
     exact ⟨_, _, RT, by (with_reducible repeat (first | apply Kd.R_alloc | apply Kd.R_drewN | apply Kd.R_drew)); exact Kd.R_mono (Kd.R_far (p := ⟨gb310, 4, none⟩) (Kd.R_far (p := ⟨gb310, 3, none⟩) (Kd.R_far (p := ⟨gb310, 2, none⟩) (Kd.R_far (p := ⟨gb310, 1, none⟩) (Kd.R_far (p := ⟨gb310, 0, none⟩) (Kd.R_types HO_319001.out BK310.out (by decide)) FK (.int .i64 x319000_1)) FK (.slice Ao50 x319001_1.length co50)) FK (.int .i64 x319002_1)) FK (.int .i64 x319003_1)) FK (.int .i64 x319004_1)) (fun _ hk => trivial), by (with_reducible repeat (first | apply Kd.R_alloc | apply Kd.R_drewN | apply Kd.R_drew)); exact Kd.R_mono (Kd.R_far (p := ⟨gb310, 4, none⟩) (Kd.R_far (p := ⟨gb310, 3, none⟩) (Kd.R_far (p := ⟨gb310, 2, none⟩) (Kd.R_far (p := ⟨gb310, 1, none⟩) (Kd.R_far (p := ⟨gb310, 0, none⟩) (Kd.R_types HO_9.out BK310.out (by decide)) FK (.int .i64 x319000_1)) FK (.slice Ao50 x319001_1.length co50)) FK (.int .i64 x319002_1)) FK (.int .i64 x319003_1)) FK (.int .i64 x319004_1)) (fun _ hk => trivial), PB⟩
   ·rw [if_neg c18] at H
    have c18b0 : (x319000_1 == 3) = false := beq_eq_false_iff_ne.mpr c18
    have c18b1 : (x319000_1 != 3) = true := bne_iff_ne.mpr c18
    simp only [Option.some.injEq, Prod.mk.injEq] at H
    obtain ⟨rfl, rfl, rfl, rfl, rfl, rfl⟩ := H
    have hnb51 := NB318_309.out
    have hnc51 := NB309_318.out
    have hnb52 := NB318_310.out
    have hnc52 := NB310_318.out
    have hcz53_0 : wr.cell? ⟨gb318, 0, none⟩ = some (.int .i64 x319000_1) := (blk_cell BK318.out 0).trans rfl
    have hcz53_1 : wr.cell? ⟨gb318, 1, none⟩ = some (u319001) := (blk_cell BK318.out 1).trans rfl
    have hcz53_2 : wr.cell? ⟨gb318, 2, none⟩ = some (.int .i64 x319002_1) := (blk_cell BK318.out 2).trans rfl
    have hcz53_3 : wr.cell? ⟨gb318, 3, none⟩ = some (.int .i64 x319003_1) := (blk_cell BK318.out 3).trans rfl
    have hcz53_4 : wr.cell? ⟨gb318, 4, none⟩ = some (.int .i64 x319004_1) := (blk_cell BK318.out 4).trans rfl
    have hfz53_0 := blk_frozen BK318.out 0
    have hfz53_1 := blk_frozen BK318.out 1
    have hfz53_2 := blk_frozen BK318.out 2
    have hfz53_3 := blk_frozen BK318.out 3
    have hfz53_4 := blk_frozen BK318.out 4
    have hnb54 := NB310_309.out
    have hnc54 := NB309_310.out
    have hcz55_0 : wr.cell? ⟨gb310, 0, none⟩ = some (.int .i64 0) := (blk_cell BK310.out 0).trans rfl
    have hcz55_1 : wr.cell? ⟨gb310, 1, none⟩ = some (.slice none 0 0) := (blk_cell BK310.out 1).trans rfl
    have hcz55_2 : wr.cell? ⟨gb310, 2, none⟩ = some (.int .i64 0) := (blk_cell BK310.out 2).trans rfl
    have hcz55_3 : wr.cell? ⟨gb310, 3, none⟩ = some (.int .i64 0) := (blk_cell BK310.out 3).trans rfl
    have hcz55_4 : wr.cell? ⟨gb310, 4, none⟩ = some (.int .i64 0) := (blk_cell BK310.out 4).trans rfl
    have hfz55_0 := blk_frozen BK310.out 0
    have hfz55_1 := blk_frozen BK310.out 1
    have hfz55_2 := blk_frozen BK310.out 2
    have hfz55_3 := blk_frozen BK310.out 3
    have hfz55_4 := blk_frozen BK310.out 4
    obtain ⟨Ao56, co56, eo56⟩ := Kd.R_slice HO_319001.out
    subst eo56
    go_wp2
    refine bodyPost_ret (results_ct rfl _ _ gb310 31 #[.int .i64 x319000_1, .slice Ao56 x319001_1.length co56, .int .i64 x319002_1, .int .i64 x319003_1, .int .i64 x319004_1] (0, 0) _ rfl (by (with_reducible repeat (first | refine blk_drewN ?_ _ | refine blk_drew ?_ | refine blk_alloc ?_ _)); refine blk_put (cs := #[.int .i64 x319000_1, .slice Ao56 x319001_1.length co56, .int .i64 x319002_1, .int .i64 x319003_1, .int .i64 0]) ?_ 4 _ rfl; (with_reducible repeat (first | refine blk_drewN ?_ _ | refine blk_drew ?_ | refine blk_alloc ?_ _)); refine blk_put (cs := #[.int .i64 x319000_1, .slice Ao56 x319001_1.length co56, .int .i64 x319002_1, .int .i64 0, .int .i64 0]) ?_ 3 _ rfl; (with_reducible repeat (first | refine blk_drewN ?_ _ | refine blk_drew ?_ | refine blk_alloc ?_ _)); refine blk_put (cs := #[.int .i64 x319000_1, .slice Ao56 x319001_1.length co56, .int .i64 0, .int .i64 0, .int .i64 0]) ?_ 2 _ rfl; (with_reducible repeat (first | refine blk_drewN ?_ _ | refine blk_drew ?_ | refine blk_alloc ?_ _)); refine blk_put (cs := #[.int .i64 x319000_1, .slice none 0 0, .int .i64 0, .int .i64 0, .int .i64 0]) ?_ 1 _ rfl; (with_reducible repeat (first | refine blk_drewN ?_ _ | refine blk_drew ?_ | refine blk_alloc ?_ _)); refine blk_put (cs := #[.int .i64 0, .slice none 0 0, .int .i64 0, .int .i64 0, .int .i64 0]) ?_ 0 _ rfl; (with_reducible repeat (first | refine blk_drewN ?_ _ | refine blk_drew ?_ | refine blk_alloc ?_ _)); exact BK310.out) Try.underlying31 rfl KR) rfl ?_
    exact ⟨_, _, RT, by (with_reducible repeat (first | apply Kd.R_alloc | apply Kd.R_drewN | apply Kd.R_drew)); exact Kd.R_mono (Kd.R_far (p := ⟨gb310, 4, none⟩) (Kd.R_far (p := ⟨gb310, 3, none⟩) (Kd.R_far (p := ⟨gb310, 2, none⟩) (Kd.R_far (p := ⟨gb310, 1, none⟩) (Kd.R_far (p := ⟨gb310, 0, none⟩) (Kd.R_types HO_319001.out BK310.out (by decide)) FK (.int .i64 x319000_1)) FK (.slice Ao56 x319001_1.length co56)) FK (.int .i64 x319002_1)) FK (.int .i64 x319003_1)) FK (.int .i64 x319004_1)) (fun _ hk => trivial), by (with_reducible repeat (first | apply Kd.R_alloc | apply Kd.R_drewN | apply Kd.R_drew)); exact Kd.R_mono (Kd.R_far (p := ⟨gb310, 4, none⟩) (Kd.R_far (p := ⟨gb310, 3, none⟩) (Kd.R_far (p := ⟨gb310, 2, none⟩) (Kd.R_far (p := ⟨gb310, 1, none⟩) (Kd.R_far (p := ⟨gb310, 0, none⟩) (Kd.R_types HO_9.out BK310.out (by decide)) FK (.int .i64 x319000_1)) FK (.slice Ao56 x319001_1.length co56)) FK (.int .i64 x319002_1)) FK (.int .i64 x319003_1)) FK (.int .i64 x319004_1)) (fun _ hk => trivial), PB⟩

end Go.Proofs.Ytdpkidjddlnafaa.MFnSites
