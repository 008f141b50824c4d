-- Written by a program of this session out of the translation's own print. Not trusted: Lean checks it.
import Derived.Test.YtdpkidjddlnafaaShr
import Derived.Test.YtdpkidjddlnafaaMFnSitesx0
import Derived.Test.YtdpkidjddlnafaaMFnSitesx1
import Derived.Test.YtdpkidjddlnafaaMFnSitesx2
import Derived.Test.YtdpkidjddlnafaaSrt
namespace Go.Proofs.Ytdpkidjddlnafaa.MFnSites
open Go.RowKit Go.Proofs.YtdpkidjddlnafaaW.PrintWords Go.Proofs.YtdpkidjddlnafaaW.PrintLast Go.Proofs.YtdpkidjddlnafaaW.PrintMore
attribute [local go_sem] max2_int min2_int max_two min_two max_three min_three max_four min_four   -- for this text's walks alone
set_option linter.unusedVariables false
set_option linter.unusedSimpArgs false

attribute [local go_sem high] eqA26
/-! ### impl_AnswerAt: function 12 -/
def impl_AnswerAt.l0 : Nat → List (S98) → Int → Int → Int → Int → Int → Option (Int × List Int × Int × Int × Int)
  | 0, _, _, _, _, _, _ => none
  | k + 1, x0, x2, x7, x229000, x229001, x229002 => if x7 ≥ 0 then (if 0 ≤ x7 then (if x7 < (x0.length : Int) then (if (((rd_T98 x0 x7).f0.f0) == x229000 && (((rd_T98 x0 x7).f0.f1) == x229001 && (((rd_T98 x0 x7).f0.f2) == x229002))) = true then (if ((rd_T98 x0 x7).f1) ≤ x2 then ((impl_copyResource.f ((rd_T98 x0 x7).f2.f0) ((rd_T98 x0 x7).f2.f1) ((rd_T98 x0 x7).f2.f2.f0) ((rd_T98 x0 x7).f2.f2.f1) ((rd_T98 x0 x7).f2.f2.f2)).bind fun bt233 => (some (bt233.1, bt233.2.1, bt233.2.2.1, bt233.2.2.2.1, bt233.2.2.2.2))) else (impl_AnswerAt.l0 k x0 x2 (wrap64 (x7 - 1)) x229000 x229001 x229002)) else (impl_AnswerAt.l0 k x0 x2 (wrap64 (x7 - 1)) x229000 x229001 x229002)) else (none)) else (none)) else (some (4, ([] : List Int), 0, 0, 0))
def impl_AnswerAt.f (k : Nat) (l0 : List (S98)) (a1_0 : Int) (a1_1 : Int) (a1_2 : Int) (a2 : Int) : Option (Int × List Int × Int × Int × Int) := impl_AnswerAt.l0 k l0 a2 (wrap64 ((l0.length : Int) - 1)) a1_0 a1_1 a1_2
set_option maxHeartbeats 8000000 in
set_option maxRecDepth 100000 in
theorem impl_AnswerAt.calls (k : Nat) (A0 : Option Addr) (c0 : Nat) (l0 : List (S98)) (a1_0 : Int) (a1_1 : Int) (a1_2 : Int) (a2 : Int) (r1 : Int) (r2 : List Int) (r3 : Int) (r4 : Int) (r5 : Int) (w : World) (hr0 : Kd.C k98 w A0 l0.length l0) (hc0 : l0.length ≤ c0) (h : impl_AnswerAt.f k l0 a1_0 a1_1 a1_2 a2 = some (r1, r2, r3, r4, r5)) :
  Calls Try.prog 12 #[.slice A0 l0.length c0, .agg #[.int .i64 a1_0, .int .i64 a1_1, .int .i64 a1_2], .int .i64 a2] w fun e w' => ∃ v1_ : Value, e = .returned (.agg #[.int .i64 r1, v1_, .int .i64 r3, .int .i64 r4, .int .i64 r5]) ∧ Kd.R (Kd.int .i64) 3 w' w.heap.size (fun _ => True) v1_ r2 ∧ Below w.heap.size w w' := by
 have hu26 := Try.underlying26
 have hu31 := Try.underlying31
 have HR0 := Aside0.mk hr0
 have HC0 := Aside0.mk hc0
 clear hr0 hc0
 have HB := ak (Below.refl w.heap.size w)
 have H : (impl_AnswerAt.l0 k l0 a2 (wrap64 ((l0.length : Int) - 1)) a1_0 a1_1 a1_2) = some (r1, r2, r3, r4, r5) := h
 clear h
 have H' := Aside0.mk H
 clear H
 go_enter Try.func12, Try.ntmps12
 go_wp2_with (first | ((with_reducible refine gate_dst (N := 4) rfl ?_); refine bx_ (N := 4) #[.int .i64 a1_0, .int .i64 a1_1, .int .i64 a1_2] 26 ?_; intro gb228 hg w4 hbox hb; have n0_ := ak (below_step PB hb); have n1_ := ak (hbox); have n2_ := ak ((gz hg PB : w.heap.size ≤ gb228)); have n3_ := ak ((gz hg PB : w.heap.size ≤ gb228)); clear HB; have HB := n0_; have BK228 := n1_; have GW228 := n2_; have GE228 := n3_; clear n0_ n1_ n2_ n3_; clear hb hbox hg) | ((with_reducible refine gate_dst (N := 6) rfl ?_); refine bx_ (N := 6) #[.int .i64 0, .slice none 0 0, .int .i64 0, .int .i64 0, .int .i64 0] 31 ?_; intro gb229 hg w5 hbox hb; have n0_ := ak (kb BK228 hb); have n1_ := ak (below_step PB hb); have n2_ := ak (hbox); have n3_ := ak ((gz hg PB : w.heap.size ≤ gb229)); have n4_ := ak ((gz hg PB : w.heap.size ≤ gb229)); have n5_ := ak ((gl hg BK228 : gb228 ≠ gb229)); have n6_ := ak (((gl hg BK228).symm : gb229 ≠ gb228)); clear BK228 HB; have BK228 := n0_; have HB := n1_; have BK229 := n2_; have GW229 := n3_; have GE229 := n4_; have NB228_229 := n5_; have NB229_228 := n6_; clear n0_ n1_ n2_ n3_ n4_ n5_ n6_; clear hb hbox hg))
 repeat (go_quiet (first | ((with_reducible refine gate_dst (N := 4) rfl ?_); refine bx_ (N := 4) #[.int .i64 a1_0, .int .i64 a1_1, .int .i64 a1_2] 26 ?_; intro gb228 hg w4 hbox hb; have n0_ := ak (below_step PB hb); have n1_ := ak (hbox); have n2_ := ak ((gz hg PB : w.heap.size ≤ gb228)); have n3_ := ak ((gz hg PB : w.heap.size ≤ gb228)); clear HB; have HB := n0_; have BK228 := n1_; have GW228 := n2_; have GE228 := n3_; clear n0_ n1_ n2_ n3_; clear hb hbox hg) | ((with_reducible refine gate_dst (N := 6) rfl ?_); refine bx_ (N := 6) #[.int .i64 0, .slice none 0 0, .int .i64 0, .int .i64 0, .int .i64 0] 31 ?_; intro gb229 hg w5 hbox hb; have n0_ := ak (kb BK228 hb); have n1_ := ak (below_step PB hb); have n2_ := ak (hbox); have n3_ := ak ((gz hg PB : w.heap.size ≤ gb229)); have n4_ := ak ((gz hg PB : w.heap.size ≤ gb229)); have n5_ := ak ((gl hg BK228 : gb228 ≠ gb229)); have n6_ := ak (((gl hg BK228).symm : gb229 ≠ gb228)); clear BK228 HB; have BK228 := n0_; have HB := n1_; have BK229 := n2_; have GW229 := n3_; have GE229 := n4_; have NB228_229 := n5_; have NB229_228 := n6_; clear n0_ n1_ n2_ n3_ n4_ n5_ n6_; clear hb hbox hg)); try go_wp2_with (first | ((with_reducible refine gate_dst (N := 4) rfl ?_); refine bx_ (N := 4) #[.int .i64 a1_0, .int .i64 a1_1, .int .i64 a1_2] 26 ?_; intro gb228 hg w4 hbox hb; have n0_ := ak (below_step PB hb); have n1_ := ak (hbox); have n2_ := ak ((gz hg PB : w.heap.size ≤ gb228)); have n3_ := ak ((gz hg PB : w.heap.size ≤ gb228)); clear HB; have HB := n0_; have BK228 := n1_; have GW228 := n2_; have GE228 := n3_; clear n0_ n1_ n2_ n3_; clear hb hbox hg) | ((with_reducible refine gate_dst (N := 6) rfl ?_); refine bx_ (N := 6) #[.int .i64 0, .slice none 0 0, .int .i64 0, .int .i64 0, .int .i64 0] 31 ?_; intro gb229 hg w5 hbox hb; have n0_ := ak (kb BK228 hb); have n1_ := ak (below_step PB hb); have n2_ := ak (hbox); have n3_ := ak ((gz hg PB : w.heap.size ≤ gb229)); have n4_ := ak ((gz hg PB : w.heap.size ≤ gb229)); have n5_ := ak ((gl hg BK228 : gb228 ≠ gb229)); have n6_ := ak (((gl hg BK228).symm : gb229 ≠ gb228)); clear BK228 HB; have BK228 := n0_; have HB := n1_; have BK229 := n2_; have GW229 := n3_; have GE229 := n4_; have NB228_229 := n5_; have NB229_228 := n6_; clear n0_ n1_ n2_ n3_ n4_ n5_ n6_; clear hb hbox hg)))
 go_loopg [7] k (fun kq v7 w' => ∃ (x7_1 : Int) (x230000_1 : Int) (x230002_1 : Int) (x230003_1 : Int) (x230004_1 : Int), v7 = .int .i64 x7_1 ∧ Aside0 (impl_AnswerAt.l0 kq l0 a2 x7_1 a1_0 a1_1 a1_2 = some (r1, r2, r3, r4, r5)) ∧ Aside0 (kq ≤ k) ∧ Aside0 (w'.heap[gb228]? = some (.cells #[.int .i64 a1_0, .int .i64 a1_1, .int .i64 a1_2] 26 (0, 0))) ∧ Aside0 (w'.heap[gb229]? = some (.cells #[.int .i64 x230000_1, (.slice none 0 0), .int .i64 x230002_1, .int .i64 x230003_1, .int .i64 x230004_1] 31 (0, 0))) ∧ Aside0 (Below w.heap.size w w'))
 case atStart => exact ⟨(wrap64 ((l0.length : Int) - 1)), (0), (0), (0), (0), (by first | rfl | (simp; done) | (simp [*]; done)), H', ⟨Nat.le_refl _⟩, ⟨PK BK228⟩, ⟨PK BK229⟩, ⟨PB⟩⟩
 case round =>
  clear H'
  (try clear c1); (try clear p2)
  obtain ⟨x7_1, x230000_1, x230002_1, x230003_1, x230004_1, rfl, HA, HK1, BK228, BK229, HB⟩ := hrel
  cases gk with
  | zero => exact absurd HA.out (by simp [impl_AnswerAt.l0])
  | succ k1 =>
   have H := HA.out
   clear HA
   simp only [impl_AnswerAt.l0] at H
   by_cases c6 : x7_1 ≥ 0
   ·rw [if_pos c6] at H
    have c6b0 : decide (0 ≤ x7_1) = true := decide_eq_true c6
    clear c6
    by_cases c7 : 0 ≤ x7_1
    ·rw [if_pos c7] at H
     have c7b0 : decide (0 ≤ x7_1) = true := decide_eq_true c7
     clear c7
     by_cases c8 : x7_1 < (l0.length : Int)
     ·rw [if_pos c8] at H
      have c8b0 : decide (x7_1 < (l0.length : Int)) = true := decide_eq_true c8
      clear c8
      by_cases c9 : (((rd_T98 l0 x7_1).f0.f0) == a1_0 && (((rd_T98 l0 x7_1).f0.f1) == a1_1 && (((rd_T98 l0 x7_1).f0.f2) == a1_2))) = true
      ·rw [if_pos c9] at H
       have c9b0 : (((rd_T98 l0 x7_1).f0.f0) == a1_0 && (((rd_T98 l0 x7_1).f0.f1) == a1_1 && (((rd_T98 l0 x7_1).f0.f2) == a1_2))) = true := c9
       (try (have c9b1 : decide (((rd_T98 l0 x7_1).f0.f0) = a1_0 && (((rd_T98 l0 x7_1).f0.f1) == a1_1 && (((rd_T98 l0 x7_1).f0.f2) == a1_2))) = true := by simpa using c9))
       (try (have c9b2 : (((rd_T98 l0 x7_1).f0.f0) == a1_0 && (((rd_T98 l0 x7_1).f0.f1) == a1_1 && (((rd_T98 l0 x7_1).f0.f2) == a1_2))) = true := by simpa using c9))
       clear c9
       by_cases c10 : ((rd_T98 l0 x7_1).f1) ≤ a2
       ·rw [if_pos c10] at H
        have c10b0 : decide (((rd_T98 l0 x7_1).f1) ≤ a2) = true := decide_eq_true c10
        clear c10
        replace H := Option.bind_eq_some_iff.mp H
        obtain ⟨⟨t233, t234, t237, t238, t239⟩, A110, H⟩ := H
        replace H : (some (t233, t234, t237, t238, t239)) = some (r1, r2, r3, r4, r5) := H
        have A11 := Aside0.mk A110
        clear A110
        simp only [Option.some.injEq, Prod.mk.injEq] at H
        obtain ⟨rfl, rfl, rfl, rfl, rfl⟩ := H
        have p230 : 0 ≤ (x7_1 : Int) := of_decide_eq_true (by first | (with_reducible assumption) | assumption)
        have q230 : x7_1 < (l0.length : Int) := of_decide_eq_true (by first | (with_reducible assumption) | assumption)
        obtain ⟨ad230, A230_5, c230_5, e230, hx230_0, hx230_1, hx230_2, hx230_3, hx230_4, hx230_5, hx230_6, hx230_7, hx230_8, hl230_5, hi230_5⟩ := at_T98 HR0.out x7_1 p230 q230
        cases e230
        replace hx230_0 := (HB.out.cell (World.block_lt_of_cell? w _ hx230_0)).trans hx230_0
        replace hx230_1 := (HB.out.cell (World.block_lt_of_cell? w _ hx230_1)).trans hx230_1
        replace hx230_2 := (HB.out.cell (World.block_lt_of_cell? w _ hx230_2)).trans hx230_2
        replace hx230_3 := (HB.out.cell (World.block_lt_of_cell? w _ hx230_3)).trans hx230_3
        replace hx230_4 := (HB.out.cell (World.block_lt_of_cell? w _ hx230_4)).trans hx230_4
        replace hx230_5 := (HB.out.cell (World.block_lt_of_cell? w _ hx230_5)).trans hx230_5
        replace hx230_6 := (HB.out.cell (World.block_lt_of_cell? w _ hx230_6)).trans hx230_6
        replace hx230_7 := (HB.out.cell (World.block_lt_of_cell? w _ hx230_7)).trans hx230_7
        replace hx230_8 := (HB.out.cell (World.block_lt_of_cell? w _ hx230_8)).trans hx230_8
        have HR230_5 := Aside0.mk hi230_5
        have HC230_5 := Aside0.mk hl230_5
        clear hi230_5 hl230_5
        replace p230 := eq_true p230
        replace q230 := eq_true q230
        have hnb12 := NB228_229.out
        have hnc12 := NB229_228.out
        have hcz13_0 : wr.cell? ⟨gb228, 0, none⟩ = some (.int .i64 a1_0) := (blk_cell BK228.out 0).trans rfl
        have hcz13_1 : wr.cell? ⟨gb228, 1, none⟩ = some (.int .i64 a1_1) := (blk_cell BK228.out 1).trans rfl
        have hcz13_2 : wr.cell? ⟨gb228, 2, none⟩ = some (.int .i64 a1_2) := (blk_cell BK228.out 2).trans rfl
        have hfz13_0 := blk_frozen BK228.out 0
        have hfz13_1 := blk_frozen BK228.out 1
        have hfz13_2 := blk_frozen BK228.out 2
        have p231 : 0 ≤ (x7_1 : Int) := of_decide_eq_true (by first | (with_reducible assumption) | assumption)
        have q231 : x7_1 < (l0.length : Int) := of_decide_eq_true (by first | (with_reducible assumption) | assumption)
        obtain ⟨ad231, A231_5, c231_5, e231, hx231_0, hx231_1, hx231_2, hx231_3, hx231_4, hx231_5, hx231_6, hx231_7, hx231_8, hl231_5, hi231_5⟩ := at_T98 HR0.out x7_1 p231 q231
        obtain rfl : ad230 = ad231 := (by injection e231)
        replace hx231_0 := (HB.out.cell (World.block_lt_of_cell? w _ hx231_0)).trans hx231_0
        replace hx231_1 := (HB.out.cell (World.block_lt_of_cell? w _ hx231_1)).trans hx231_1
        replace hx231_2 := (HB.out.cell (World.block_lt_of_cell? w _ hx231_2)).trans hx231_2
        replace hx231_3 := (HB.out.cell (World.block_lt_of_cell? w _ hx231_3)).trans hx231_3
        replace hx231_4 := (HB.out.cell (World.block_lt_of_cell? w _ hx231_4)).trans hx231_4
        replace hx231_5 := (HB.out.cell (World.block_lt_of_cell? w _ hx231_5)).trans hx231_5
        replace hx231_6 := (HB.out.cell (World.block_lt_of_cell? w _ hx231_6)).trans hx231_6
        replace hx231_7 := (HB.out.cell (World.block_lt_of_cell? w _ hx231_7)).trans hx231_7
        replace hx231_8 := (HB.out.cell (World.block_lt_of_cell? w _ hx231_8)).trans hx231_8
        have HR231_5 := Aside0.mk hi231_5
        have HC231_5 := Aside0.mk hl231_5
        clear hi231_5 hl231_5
        replace p231 := eq_true p231
        replace q231 := eq_true q231
        have ea_ := Option.some.inj (hx230_5.symm.trans hx231_5)
        injection ea_ with ea_ en_ ec_
        subst ea_
        subst ec_
        clear en_
        have p232 : 0 ≤ (x7_1 : Int) := of_decide_eq_true (by first | (with_reducible assumption) | assumption)
        have q232 : x7_1 < (l0.length : Int) := of_decide_eq_true (by first | (with_reducible assumption) | assumption)
        obtain ⟨ad232, A232_5, c232_5, e232, hx232_0, hx232_1, hx232_2, hx232_3, hx232_4, hx232_5, hx232_6, hx232_7, hx232_8, hl232_5, hi232_5⟩ := at_T98 HR0.out x7_1 p232 q232
        obtain rfl : ad230 = ad232 := (by injection e232)
        replace hx232_0 := (HB.out.cell (World.block_lt_of_cell? w _ hx232_0)).trans hx232_0
        replace hx232_1 := (HB.out.cell (World.block_lt_of_cell? w _ hx232_1)).trans hx232_1
        replace hx232_2 := (HB.out.cell (World.block_lt_of_cell? w _ hx232_2)).trans hx232_2
        replace hx232_3 := (HB.out.cell (World.block_lt_of_cell? w _ hx232_3)).trans hx232_3
        replace hx232_4 := (HB.out.cell (World.block_lt_of_cell? w _ hx232_4)).trans hx232_4
        replace hx232_5 := (HB.out.cell (World.block_lt_of_cell? w _ hx232_5)).trans hx232_5
        replace hx232_6 := (HB.out.cell (World.block_lt_of_cell? w _ hx232_6)).trans hx232_6
        replace hx232_7 := (HB.out.cell (World.block_lt_of_cell? w _ hx232_7)).trans hx232_7
        replace hx232_8 := (HB.out.cell (World.block_lt_of_cell? w _ hx232_8)).trans hx232_8
        have HR232_5 := Aside0.mk hi232_5
        have HC232_5 := Aside0.mk hl232_5
        clear hi232_5 hl232_5
        replace p232 := eq_true p232
        replace q232 := eq_true q232
        have ea_ := Option.some.inj (hx230_5.symm.trans hx232_5)
        injection ea_ with ea_ en_ ec_
        subst ea_
        subst ec_
        clear en_
        go_wp2_with (first | (go_at_call 58; (with_reducible refine (impl_copyResource.calls ((rd_T98 l0 x7_1).f2.f0) _ _ ((rd_T98 l0 x7_1).f2.f1) ((rd_T98 l0 x7_1).f2.f2.f0) ((rd_T98 l0 x7_1).f2.f2.f1) ((rd_T98 l0 x7_1).f2.f2.f2) t233 t234 t237 t238 t239 _ ?side1 ?side2 A11.out).mono ?_); (case side1 => repeat (first | exact (Kd.C_below HR232_5.out HB.out) | (with_reducible refine Kd.C_alloc ?_ _) | (with_reducible refine Kd.C_drewN ?_ _) | (with_reducible refine Kd.C_drew ?_))); (case side2 => exact HC232_5.out); rintro e w14 ⟨v235, rfl, ho0, hb⟩; have n0_ := ak (Kd.R_lower ho0 (below_size PB)); have n1_ := ak (kb BK228 hb); have n2_ := ak (kb BK229 hb); have n3_ := ak (below_step PB hb); clear BK228 BK229 HB; have HO236 := n0_; have BK228 := n1_; have BK229 := n2_; have HB := n3_; clear n0_ n1_ n2_ n3_; (try clear hb); (try clear hb2); (try clear hk); (try clear hi); (try clear ho0); have hcz15_0 : w14.cell? ⟨gb229, 0, none⟩ = some (.int .i64 x230000_1) := (blk_cell BK229.out 0).trans rfl; have hcz15_1 : w14.cell? ⟨gb229, 1, none⟩ = some (.slice none 0 0) := (blk_cell BK229.out 1).trans rfl; have hcz15_2 : w14.cell? ⟨gb229, 2, none⟩ = some (.int .i64 x230002_1) := (blk_cell BK229.out 2).trans rfl; have hcz15_3 : w14.cell? ⟨gb229, 3, none⟩ = some (.int .i64 x230003_1) := (blk_cell BK229.out 3).trans rfl; have hcz15_4 : w14.cell? ⟨gb229, 4, none⟩ = some (.int .i64 x230004_1) := (blk_cell BK229.out 4).trans rfl; have hfz15_0 := blk_frozen BK229.out 0; have hfz15_1 := blk_frozen BK229.out 1; have hfz15_2 := blk_frozen BK229.out 2; have hfz15_3 := blk_frozen BK229.out 3; have hfz15_4 := blk_frozen BK229.out 4; obtain ⟨Ao16, co16, eo16⟩ := Kd.R_slice HO236.out; subst eo16))
        repeat (go_quiet (first | (go_at_call 58; (with_reducible refine (impl_copyResource.calls ((rd_T98 l0 x7_1).f2.f0) _ _ ((rd_T98 l0 x7_1).f2.f1) ((rd_T98 l0 x7_1).f2.f2.f0) ((rd_T98 l0 x7_1).f2.f2.f1) ((rd_T98 l0 x7_1).f2.f2.f2) t233 t234 t237 t238 t239 _ ?side1 ?side2 A11.out).mono ?_); (case side1 => repeat (first | exact (Kd.C_below HR232_5.out HB.out) | (with_reducible refine Kd.C_alloc ?_ _) | (with_reducible refine Kd.C_drewN ?_ _) | (with_reducible refine Kd.C_drew ?_))); (case side2 => exact HC232_5.out); rintro e w14 ⟨v235, rfl, ho0, hb⟩; have n0_ := ak (Kd.R_lower ho0 (below_size PB)); have n1_ := ak (kb BK228 hb); have n2_ := ak (kb BK229 hb); have n3_ := ak (below_step PB hb); clear BK228 BK229 HB; have HO236 := n0_; have BK228 := n1_; have BK229 := n2_; have HB := n3_; clear n0_ n1_ n2_ n3_; (try clear hb); (try clear hb2); (try clear hk); (try clear hi); (try clear ho0); have hcz15_0 : w14.cell? ⟨gb229, 0, none⟩ = some (.int .i64 x230000_1) := (blk_cell BK229.out 0).trans rfl; have hcz15_1 : w14.cell? ⟨gb229, 1, none⟩ = some (.slice none 0 0) := (blk_cell BK229.out 1).trans rfl; have hcz15_2 : w14.cell? ⟨gb229, 2, none⟩ = some (.int .i64 x230002_1) := (blk_cell BK229.out 2).trans rfl; have hcz15_3 : w14.cell? ⟨gb229, 3, none⟩ = some (.int .i64 x230003_1) := (blk_cell BK229.out 3).trans rfl; have hcz15_4 : w14.cell? ⟨gb229, 4, none⟩ = some (.int .i64 x230004_1) := (blk_cell BK229.out 4).trans rfl; have hfz15_0 := blk_frozen BK229.out 0; have hfz15_1 := blk_frozen BK229.out 1; have hfz15_2 := blk_frozen BK229.out 2; have hfz15_3 := blk_frozen BK229.out 3; have hfz15_4 := blk_frozen BK229.out 4; obtain ⟨Ao16, co16, eo16⟩ := Kd.R_slice HO236.out; subst eo16)); try go_wp2_with (first | (go_at_call 58; (with_reducible refine (impl_copyResource.calls ((rd_T98 l0 x7_1).f2.f0) _ _ ((rd_T98 l0 x7_1).f2.f1) ((rd_T98 l0 x7_1).f2.f2.f0) ((rd_T98 l0 x7_1).f2.f2.f1) ((rd_T98 l0 x7_1).f2.f2.f2) t233 t234 t237 t238 t239 _ ?side1 ?side2 A11.out).mono ?_); (case side1 => repeat (first | exact (Kd.C_below HR232_5.out HB.out) | (with_reducible refine Kd.C_alloc ?_ _) | (with_reducible refine Kd.C_drewN ?_ _) | (with_reducible refine Kd.C_drew ?_))); (case side2 => exact HC232_5.out); rintro e w14 ⟨v235, rfl, ho0, hb⟩; have n0_ := ak (Kd.R_lower ho0 (below_size PB)); have n1_ := ak (kb BK228 hb); have n2_ := ak (kb BK229 hb); have n3_ := ak (below_step PB hb); clear BK228 BK229 HB; have HO236 := n0_; have BK228 := n1_; have BK229 := n2_; have HB := n3_; clear n0_ n1_ n2_ n3_; (try clear hb); (try clear hb2); (try clear hk); (try clear hi); (try clear ho0); have hcz15_0 : w14.cell? ⟨gb229, 0, none⟩ = some (.int .i64 x230000_1) := (blk_cell BK229.out 0).trans rfl; have hcz15_1 : w14.cell? ⟨gb229, 1, none⟩ = some (.slice none 0 0) := (blk_cell BK229.out 1).trans rfl; have hcz15_2 : w14.cell? ⟨gb229, 2, none⟩ = some (.int .i64 x230002_1) := (blk_cell BK229.out 2).trans rfl; have hcz15_3 : w14.cell? ⟨gb229, 3, none⟩ = some (.int .i64 x230003_1) := (blk_cell BK229.out 3).trans rfl; have hcz15_4 : w14.cell? ⟨gb229, 4, none⟩ = some (.int .i64 x230004_1) := (blk_cell BK229.out 4).trans rfl; have hfz15_0 := blk_frozen BK229.out 0; have hfz15_1 := blk_frozen BK229.out 1; have hfz15_2 := blk_frozen BK229.out 2; have hfz15_3 := blk_frozen BK229.out 3; have hfz15_4 := blk_frozen BK229.out 4; obtain ⟨Ao16, co16, eo16⟩ := Kd.R_slice HO236.out; subst eo16)))
        refine bodyPost_ret (results_cell_row rfl _ _ gb229 31 #[.int .i64 t233, .slice Ao16 t234.length co16, .int .i64 t237, .int .i64 t238, .int .i64 t239] (0, 0) _ rfl (by (with_reducible repeat (first | refine blk_drewN ?_ _ | refine blk_drew ?_ | refine blk_alloc ?_ _)); refine blk_put (cs := #[.int .i64 t233, .slice Ao16 t234.length co16, .int .i64 t237, .int .i64 t238, .int .i64 x230004_1]) ?_ 4 _ rfl; (with_reducible repeat (first | refine blk_drewN ?_ _ | refine blk_drew ?_ | refine blk_alloc ?_ _)); refine blk_put (cs := #[.int .i64 t233, .slice Ao16 t234.length co16, .int .i64 t237, .int .i64 x230003_1, .int .i64 x230004_1]) ?_ 3 _ rfl; (with_reducible repeat (first | refine blk_drewN ?_ _ | refine blk_drew ?_ | refine blk_alloc ?_ _)); refine blk_put (cs := #[.int .i64 t233, .slice Ao16 t234.length co16, .int .i64 x230002_1, .int .i64 x230003_1, .int .i64 x230004_1]) ?_ 2 _ rfl; (with_reducible repeat (first | refine blk_drewN ?_ _ | refine blk_drew ?_ | refine blk_alloc ?_ _)); refine blk_put (cs := #[.int .i64 t233, .slice none 0 0, .int .i64 x230002_1, .int .i64 x230003_1, .int .i64 x230004_1]) ?_ 1 _ rfl; (with_reducible repeat (first | refine blk_drewN ?_ _ | refine blk_drew ?_ | refine blk_alloc ?_ _)); refine blk_put (cs := #[.int .i64 x230000_1, .slice none 0 0, .int .i64 x230002_1, .int .i64 x230003_1, .int .i64 x230004_1]) ?_ 0 _ rfl; (with_reducible repeat (first | refine blk_drewN ?_ _ | refine blk_drew ?_ | refine blk_alloc ?_ _)); exact BK229.out) Try.underlying31 rfl KR) rfl ?_
        exact ⟨_, RT, by (with_reducible repeat (first | apply Kd.R_alloc | apply Kd.R_drewN | apply Kd.R_drew)); exact Kd.R_mono (Kd.R_far (p := ⟨gb229, 4, none⟩) (Kd.R_far (p := ⟨gb229, 3, none⟩) (Kd.R_far (p := ⟨gb229, 2, none⟩) (Kd.R_far (p := ⟨gb229, 1, none⟩) (Kd.R_far (p := ⟨gb229, 0, none⟩) (Kd.R_types HO236.out BK229.out (by decide)) FK (.int .i64 t233)) FK (.slice Ao16 t234.length co16)) FK (.int .i64 t237)) FK (.int .i64 t238)) FK (.int .i64 t239)) (fun _ hk => trivial), PB⟩
       ·rw [if_neg c10] at H
        have c10b0 : decide (((rd_T98 l0 x7_1).f1) ≤ a2) = false := decide_eq_false c10
        clear c10
        have H' := Aside0.mk H
        clear H
        have p230 : 0 ≤ (x7_1 : Int) := of_decide_eq_true (by first | (with_reducible assumption) | assumption)
        have q230 : x7_1 < (l0.length : Int) := of_decide_eq_true (by first | (with_reducible assumption) | assumption)
        obtain ⟨ad230, A230_5, c230_5, e230, hx230_0, hx230_1, hx230_2, hx230_3, hx230_4, hx230_5, hx230_6, hx230_7, hx230_8, hl230_5, hi230_5⟩ := at_T98 HR0.out x7_1 p230 q230
        cases e230
        replace hx230_0 := (HB.out.cell (World.block_lt_of_cell? w _ hx230_0)).trans hx230_0
        replace hx230_1 := (HB.out.cell (World.block_lt_of_cell? w _ hx230_1)).trans hx230_1
        replace hx230_2 := (HB.out.cell (World.block_lt_of_cell? w _ hx230_2)).trans hx230_2
        replace hx230_3 := (HB.out.cell (World.block_lt_of_cell? w _ hx230_3)).trans hx230_3
        replace hx230_4 := (HB.out.cell (World.block_lt_of_cell? w _ hx230_4)).trans hx230_4
        replace hx230_5 := (HB.out.cell (World.block_lt_of_cell? w _ hx230_5)).trans hx230_5
        replace hx230_6 := (HB.out.cell (World.block_lt_of_cell? w _ hx230_6)).trans hx230_6
        replace hx230_7 := (HB.out.cell (World.block_lt_of_cell? w _ hx230_7)).trans hx230_7
        replace hx230_8 := (HB.out.cell (World.block_lt_of_cell? w _ hx230_8)).trans hx230_8
        have HR230_5 := Aside0.mk hi230_5
        have HC230_5 := Aside0.mk hl230_5
        clear hi230_5 hl230_5
        replace p230 := eq_true p230
        replace q230 := eq_true q230
        have hnb17 := NB228_229.out
        have hnc17 := NB229_228.out
        have hcz18_0 : wr.cell? ⟨gb228, 0, none⟩ = some (.int .i64 a1_0) := (blk_cell BK228.out 0).trans rfl
        have hcz18_1 : wr.cell? ⟨gb228, 1, none⟩ = some (.int .i64 a1_1) := (blk_cell BK228.out 1).trans rfl
        have hcz18_2 : wr.cell? ⟨gb228, 2, none⟩ = some (.int .i64 a1_2) := (blk_cell BK228.out 2).trans rfl
        have hfz18_0 := blk_frozen BK228.out 0
        have hfz18_1 := blk_frozen BK228.out 1
        have hfz18_2 := blk_frozen BK228.out 2
        have p231 : 0 ≤ (x7_1 : Int) := of_decide_eq_true (by first | (with_reducible assumption) | assumption)
        have q231 : x7_1 < (l0.length : Int) := of_decide_eq_true (by first | (with_reducible assumption) | assumption)
        obtain ⟨ad231, A231_5, c231_5, e231, hx231_0, hx231_1, hx231_2, hx231_3, hx231_4, hx231_5, hx231_6, hx231_7, hx231_8, hl231_5, hi231_5⟩ := at_T98 HR0.out x7_1 p231 q231
        obtain rfl : ad230 = ad231 := (by injection e231)
        replace hx231_0 := (HB.out.cell (World.block_lt_of_cell? w _ hx231_0)).trans hx231_0
        replace hx231_1 := (HB.out.cell (World.block_lt_of_cell? w _ hx231_1)).trans hx231_1
        replace hx231_2 := (HB.out.cell (World.block_lt_of_cell? w _ hx231_2)).trans hx231_2
        replace hx231_3 := (HB.out.cell (World.block_lt_of_cell? w _ hx231_3)).trans hx231_3
        replace hx231_4 := (HB.out.cell (World.block_lt_of_cell? w _ hx231_4)).trans hx231_4
        replace hx231_5 := (HB.out.cell (World.block_lt_of_cell? w _ hx231_5)).trans hx231_5
        replace hx231_6 := (HB.out.cell (World.block_lt_of_cell? w _ hx231_6)).trans hx231_6
        replace hx231_7 := (HB.out.cell (World.block_lt_of_cell? w _ hx231_7)).trans hx231_7
        replace hx231_8 := (HB.out.cell (World.block_lt_of_cell? w _ hx231_8)).trans hx231_8
        have HR231_5 := Aside0.mk hi231_5
        have HC231_5 := Aside0.mk hl231_5
        clear hi231_5 hl231_5
        replace p231 := eq_true p231
        replace q231 := eq_true q231
        have ea_ := Option.some.inj (hx230_5.symm.trans hx231_5)
        injection ea_ with ea_ en_ ec_
        subst ea_
        subst ec_
        clear en_
        go_wp2
        repeat (go_quiet (fail); try go_wp2)
        go_roundg k1
        case measure => have := HK1.out; omega
        case rel => exact ⟨(wrap64 (x7_1 - 1)), (x230000_1), (x230002_1), (x230003_1), (x230004_1), (by first | rfl | (simp; done) | (simp [*]; done)), H', ⟨by have := HK1.out; omega⟩, ⟨PK BK228⟩, ⟨PK BK229⟩, ⟨PB⟩⟩
      ·rw [if_neg c9] at H
       have c9b0 : (((rd_T98 l0 x7_1).f0.f0) == a1_0 && (((rd_T98 l0 x7_1).f0.f1) == a1_1 && (((rd_T98 l0 x7_1).f0.f2) == a1_2))) = false := by simpa using c9
       (try (have c9b1 : decide (((rd_T98 l0 x7_1).f0.f0) = a1_0 && (((rd_T98 l0 x7_1).f0.f1) == a1_1 && (((rd_T98 l0 x7_1).f0.f2) == a1_2))) = false := by simpa using c9))
       (try (have c9b2 : (((rd_T98 l0 x7_1).f0.f0) == a1_0 && (((rd_T98 l0 x7_1).f0.f1) == a1_1 && (((rd_T98 l0 x7_1).f0.f2) == a1_2))) = false := by simpa using c9))
       (try (have c9b3 : ¬ (((rd_T98 l0 x7_1).f0.f0) = a1_0 && (((rd_T98 l0 x7_1).f0.f1) == a1_1 && (((rd_T98 l0 x7_1).f0.f2) == a1_2))) := by simpa using c9))
       clear c9
       have H' := Aside0.mk H
       clear H
       have p230 : 0 ≤ (x7_1 : Int) := of_decide_eq_true (by first | (with_reducible assumption) | assumption)
       have q230 : x7_1 < (l0.length : Int) := of_decide_eq_true (by first | (with_reducible assumption) | assumption)
       obtain ⟨ad230, A230_5, c230_5, e230, hx230_0, hx230_1, hx230_2, hx230_3, hx230_4, hx230_5, hx230_6, hx230_7, hx230_8, hl230_5, hi230_5⟩ := at_T98 HR0.out x7_1 p230 q230
       cases e230
       replace hx230_0 := (HB.out.cell (World.block_lt_of_cell? w _ hx230_0)).trans hx230_0
       replace hx230_1 := (HB.out.cell (World.block_lt_of_cell? w _ hx230_1)).trans hx230_1
       replace hx230_2 := (HB.out.cell (World.block_lt_of_cell? w _ hx230_2)).trans hx230_2
       replace hx230_3 := (HB.out.cell (World.block_lt_of_cell? w _ hx230_3)).trans hx230_3
       replace hx230_4 := (HB.out.cell (World.block_lt_of_cell? w _ hx230_4)).trans hx230_4
       replace hx230_5 := (HB.out.cell (World.block_lt_of_cell? w _ hx230_5)).trans hx230_5
       replace hx230_6 := (HB.out.cell (World.block_lt_of_cell? w _ hx230_6)).trans hx230_6
       replace hx230_7 := (HB.out.cell (World.block_lt_of_cell? w _ hx230_7)).trans hx230_7
       replace hx230_8 := (HB.out.cell (World.block_lt_of_cell? w _ hx230_8)).trans hx230_8
       have HR230_5 := Aside0.mk hi230_5
       have HC230_5 := Aside0.mk hl230_5
       clear hi230_5 hl230_5
       replace p230 := eq_true p230
       replace q230 := eq_true q230
       have hnb19 := NB228_229.out
       have hnc19 := NB229_228.out
       have hcz20_0 : wr.cell? ⟨gb228, 0, none⟩ = some (.int .i64 a1_0) := (blk_cell BK228.out 0).trans rfl
       have hcz20_1 : wr.cell? ⟨gb228, 1, none⟩ = some (.int .i64 a1_1) := (blk_cell BK228.out 1).trans rfl
       have hcz20_2 : wr.cell? ⟨gb228, 2, none⟩ = some (.int .i64 a1_2) := (blk_cell BK228.out 2).trans rfl
       have hfz20_0 := blk_frozen BK228.out 0
       have hfz20_1 := blk_frozen BK228.out 1
       have hfz20_2 := blk_frozen BK228.out 2
       go_wp2
       repeat (go_quiet (fail); try go_wp2)
       go_roundg k1
       case measure => have := HK1.out; omega
       case rel => exact ⟨(wrap64 (x7_1 - 1)), (x230000_1), (x230002_1), (x230003_1), (x230004_1), (by first | rfl | (simp; done) | (simp [*]; done)), H', ⟨by have := HK1.out; omega⟩, ⟨PK BK228⟩, ⟨PK BK229⟩, ⟨PB⟩⟩
     ·rw [if_neg c8] at H
      exact absurd H (by simp)
    ·rw [if_neg c7] at H
     exact absurd H (by simp)
   ·rw [if_neg c6] at H
    have c6b0 : decide (0 ≤ x7_1) = false := decide_eq_false c6
    clear c6
    simp only [Option.some.injEq, Prod.mk.injEq] at H
    obtain ⟨rfl, rfl, rfl, rfl, rfl⟩ := H
    have hnb21 := NB229_228.out
    have hnc21 := NB228_229.out
    have hcz22_0 : wr.cell? ⟨gb229, 0, none⟩ = some (.int .i64 x230000_1) := (blk_cell BK229.out 0).trans rfl
    have hcz22_1 : wr.cell? ⟨gb229, 1, none⟩ = some (.slice none 0 0) := (blk_cell BK229.out 1).trans rfl
    have hcz22_2 : wr.cell? ⟨gb229, 2, none⟩ = some (.int .i64 x230002_1) := (blk_cell BK229.out 2).trans rfl
    have hcz22_3 : wr.cell? ⟨gb229, 3, none⟩ = some (.int .i64 x230003_1) := (blk_cell BK229.out 3).trans rfl
    have hcz22_4 : wr.cell? ⟨gb229, 4, none⟩ = some (.int .i64 x230004_1) := (blk_cell BK229.out 4).trans rfl
    have hfz22_0 := blk_frozen BK229.out 0
    have hfz22_1 := blk_frozen BK229.out 1
    have hfz22_2 := blk_frozen BK229.out 2
    have hfz22_3 := blk_frozen BK229.out 3
    have hfz22_4 := blk_frozen BK229.out 4
    go_wp2
    repeat (go_quiet (fail); try go_wp2)
    refine bodyPost_ret (results_cell_row rfl _ _ gb229 31 #[.int .i64 4, .slice none 0 0, .int .i64 0, .int .i64 0, .int .i64 0] (0, 0) _ rfl (by (with_reducible repeat (first | refine blk_drewN ?_ _ | refine blk_drew ?_ | refine blk_alloc ?_ _)); refine blk_put (cs := #[.int .i64 4, .slice none 0 0, .int .i64 0, .int .i64 0, .int .i64 x230004_1]) ?_ 4 _ rfl; (with_reducible repeat (first | refine blk_drewN ?_ _ | refine blk_drew ?_ | refine blk_alloc ?_ _)); refine blk_put (cs := #[.int .i64 4, .slice none 0 0, .int .i64 0, .int .i64 x230003_1, .int .i64 x230004_1]) ?_ 3 _ rfl; (with_reducible repeat (first | refine blk_drewN ?_ _ | refine blk_drew ?_ | refine blk_alloc ?_ _)); refine blk_put (cs := #[.int .i64 4, .slice none 0 0, .int .i64 x230002_1, .int .i64 x230003_1, .int .i64 x230004_1]) ?_ 2 _ rfl; (with_reducible repeat (first | refine blk_drewN ?_ _ | refine blk_drew ?_ | refine blk_alloc ?_ _)); refine blk_put (cs := #[.int .i64 4, .slice none 0 0, .int .i64 x230002_1, .int .i64 x230003_1, .int .i64 x230004_1]) ?_ 1 _ rfl; (with_reducible repeat (first | refine blk_drewN ?_ _ | refine blk_drew ?_ | refine blk_alloc ?_ _)); refine blk_put (cs := #[.int .i64 x230000_1, .slice none 0 0, .int .i64 x230002_1, .int .i64 x230003_1, .int .i64 x230004_1]) ?_ 0 _ rfl; (with_reducible repeat (first | refine blk_drewN ?_ _ | refine blk_drew ?_ | refine blk_alloc ?_ _)); exact BK229.out) Try.underlying31 rfl KR) rfl ?_
    exact ⟨_, RT, by first | exact Kd.R_nil _ _ _ _ _ | exact Kd.N_nil _ _ _ _ _ | exact Kd.V_nil _ _ _ _ _ | exact Kd.Q_nil _ _ _ _ _ | exact Kd.S_nil _ _ _ _ _, PB⟩

/-! ### impl_sorted: function 59 -/
def impl_sorted.f (l0 : List Int) : Option (List Int) := (slices_Clone_int_int.f l0).bind fun t => if t.length < 17592186044416 then some (Lib.compact (t.mergeSort fun x y => decide (x ≤ y))) else none
theorem impl_sorted.calls (A0 : Option Addr) (c0 : Nat) (l0 : List Int) (r : List Int) (w : World) (hr0 : Kd.C (Kd.int .i64) w A0 l0.length l0) (hc0 : l0.length ≤ c0) (h : impl_sorted.f l0 = some r) :
  Calls Try.prog 59 #[.slice A0 l0.length c0] w fun e w' => ∃ v0_ : Value, e = .returned (v0_) ∧ Kd.R (Kd.int .i64) 3 w' w.heap.size (fun _ => True) v0_ r ∧ Below w.heap.size w w' := by
 unfold impl_sorted.f at h
 obtain ⟨t, ht, h⟩ := Option.bind_eq_some_iff.1 h
 by_cases hl : t.length < 17592186044416
 ·rw [if_pos hl] at h
  have h := Option.some.inj h
  subst h
  have hc := slices_Clone_int_int.calls A0 c0 l0 t w hr0 hc0 ht
  clear hr0 ht
  have hs : ∀ (w1 : World) (v1 : Value), Kd.R (Kd.int .i64) 3 w1 w.heap.size (fun _ => True) v1 t → Calls Try.prog 109 #[v1] w1 _ := fun w1 v1 hR => YtdpkidjddlnafaaSrt.sort_R hR hl
  have hl2 : (t.mergeSort fun x y => decide (x ≤ y)).length = t.length := List.length_mergeSort t
  generalize hq : (t.mergeSort fun x y => decide (x ≤ y)) = q at hs hl2 ⊢
  have hp : ∀ (w1 : World) (v1 : Value), Kd.R (Kd.int .i64) 3 w1 w.heap.size (fun _ => True) v1 q → Calls Try.prog 110 #[v1] w1 _ := fun w1 v1 hR => YtdpkidjddlnafaaSrt.compact_R hR (by omega)
  clear hq hl hl2
  go_enter Try.func59, Try.ntmps59
  go_wp2_with (first
   | (go_at_call 108; refine hc.mono ?_; rintro e w1 ⟨v1, rfl, hR1, hB1⟩; have X1 := Aside0.mk hR1; have Y1 := Aside0.mk hB1; clear hR1 hB1)
   | (go_at_call 109; refine (hs _ _ X1.out).mono ?_; rintro e w2 ⟨rfl, hR2, hB2⟩; have X2 := Aside0.mk hR2; have Y2 := ak (hB2 w.heap.size w (Nat.le_refl _) Y1.out); clear hR2 hB2)
   | (go_at_call 110; refine (hp _ _ X2.out).mono ?_; rintro e w3 ⟨v3, rfl, hR3, hB3⟩; have X3 := Aside0.mk hR3; have Y3 := ak (hB3 w.heap.size w (Nat.le_refl _) Y2.out); clear hR3 hB3))
  go_ret
  exact ⟨v3, rfl, X3.out, Y3.out⟩
 ·rw [if_neg hl] at h
  cases h

attribute [local go_sem high] eqA26
/-! ### impl_ChangesOf: function 13 -/
def impl_ChangesOf.l0 : Nat → List Int → List (S98) → Int → Int → Int → Int → Int → Option (List Int)
  | 0, _, _, _, _, _, _, _ => none
  | k + 1, x5, x8, x9, x10, x244000, x244001, x244002 => if x10 < x9 then (if 0 ≤ x10 then (if x10 < (x8.length : Int) then (if (((rd_T98 x8 x10).f0.f0) == x244000 && (((rd_T98 x8 x10).f0.f1) == x244001 && (((rd_T98 x8 x10).f0.f2) == x244002))) = true then (if x5.length < 17592186044416 then (impl_ChangesOf.l0 k (x5 ++ [(rd_T98 x8 x10).f1]) x8 x9 (wrap64 (x10 + 1)) x244000 x244001 x244002) else (none)) else (impl_ChangesOf.l0 k x5 x8 x9 (wrap64 (x10 + 1)) x244000 x244001 x244002)) else (none)) else (none)) else ((impl_sorted.f x5).bind fun t249 => (some t249))
def impl_ChangesOf.f (k : Nat) (l0 : List (S98)) (a1_0 : Int) (a1_1 : Int) (a1_2 : Int) : Option (List Int) := impl_ChangesOf.l0 k ([] : List Int) l0 (l0.length : Int) 0 a1_0 a1_1 a1_2
set_option maxHeartbeats 8000000 in
set_option maxRecDepth 100000 in
theorem impl_ChangesOf.calls (k : Nat) (A0 : Option Addr) (c0 : Nat) (l0 : List (S98)) (a1_0 : Int) (a1_1 : Int) (a1_2 : Int) (r : List Int) (w : World) (hr0 : Kd.C k98 w A0 l0.length l0) (hc0 : l0.length ≤ c0) (h : impl_ChangesOf.f k l0 a1_0 a1_1 a1_2 = some r) :
  Calls Try.prog 13 #[.slice A0 l0.length c0, .agg #[.int .i64 a1_0, .int .i64 a1_1, .int .i64 a1_2]] w fun e w' => ∃ v0_ : Value, e = .returned (v0_) ∧ Kd.R (Kd.int .i64) 3 w' w.heap.size (fun _ => True) v0_ r ∧ Below w.heap.size w w' := by
 have hu26 := Try.underlying26
 have hu98 := Try.underlying98
 have HR0 := Aside0.mk hr0
 have HC0 := Aside0.mk hc0
 clear hr0 hc0
 have HB := ak (Below.refl w.heap.size w)
 have H : (impl_ChangesOf.l0 k ([] : List Int) l0 (l0.length : Int) 0 a1_0 a1_1 a1_2) = some r := h
 clear h
 have H' := Aside0.mk H
 clear H
 go_enter Try.func13, Try.ntmps13
 go_wp2_with (first | ((with_reducible refine gate_dst (N := 3) rfl ?_); refine bx_ (N := 3) #[.int .i64 a1_0, .int .i64 a1_1, .int .i64 a1_2] 26 ?_; intro gb243 hg w3 hbox hb; have n0_ := ak (below_step PB hb); have n1_ := ak (hbox); have n2_ := ak ((gz hg PB : w.heap.size ≤ gb243)); have n3_ := ak ((gz hg PB : w.heap.size ≤ gb243)); clear HB; have HB := n0_; have BK243 := n1_; have GW243 := n2_; have GE243 := n3_; clear n0_ n1_ n2_ n3_; clear hb hbox hg))
 go_loopg [5, 10] k (fun kq v5 v10 w' => ∃ (x5_1 : List Int) (x10_1 : Int), v10 = .int .i64 x10_1 ∧ Aside0 (impl_ChangesOf.l0 kq x5_1 l0 (l0.length : Int) x10_1 a1_0 a1_1 a1_2 = some r) ∧ Aside0 (kq ≤ k) ∧ Aside0 (Kd.R (Kd.int .i64) 3 w' w.heap.size (fun _ => True) v5 x5_1) ∧ Aside0 (w'.heap[gb243]? = some (.cells #[.int .i64 a1_0, .int .i64 a1_1, .int .i64 a1_2] 26 (0, 0))) ∧ Aside0 (Below w.heap.size w w'))
 case atStart => exact ⟨(([] : List Int)), (0), (by first | rfl | (simp; done) | (simp [*]; done)), H', ⟨Nat.le_refl _⟩, ⟨by first | exact Kd.R_nil _ _ _ _ _ | exact Kd.N_nil _ _ _ _ _ | exact Kd.V_nil _ _ _ _ _ | exact Kd.Q_nil _ _ _ _ _ | exact Kd.S_nil _ _ _ _ _⟩, ⟨PK BK243⟩, ⟨PB⟩⟩
 case round =>
  clear H'
  (try clear c1); (try clear p2)
  obtain ⟨x5_1, x10_1, rfl, HA, HK1, HO_5, BK243, HB⟩ := hrel
  cases gk with
  | zero => exact absurd HA.out (by simp [impl_ChangesOf.l0])
  | succ k1 =>
   have H := HA.out
   clear HA
   simp only [impl_ChangesOf.l0] at H
   by_cases c4 : x10_1 < (l0.length : Int)
   ·rw [if_pos c4] at H
    have c4b0 : decide (x10_1 < (l0.length : Int)) = true := decide_eq_true c4
    clear c4
    by_cases c5 : 0 ≤ x10_1
    ·rw [if_pos c5] at H
     have c5b0 : decide (0 ≤ x10_1) = true := decide_eq_true c5
     clear c5
     by_cases c6 : x10_1 < (l0.length : Int)
     ·rw [if_pos c6] at H
      have c6b0 : decide (x10_1 < (l0.length : Int)) = true := decide_eq_true c6
      clear c6
      by_cases c7 : (((rd_T98 l0 x10_1).f0.f0) == a1_0 && (((rd_T98 l0 x10_1).f0.f1) == a1_1 && (((rd_T98 l0 x10_1).f0.f2) == a1_2))) = true
      ·rw [if_pos c7] at H
       have c7b0 : (((rd_T98 l0 x10_1).f0.f0) == a1_0 && (((rd_T98 l0 x10_1).f0.f1) == a1_1 && (((rd_T98 l0 x10_1).f0.f2) == a1_2))) = true := c7
       (try (have c7b1 : decide (((rd_T98 l0 x10_1).f0.f0) = a1_0 && (((rd_T98 l0 x10_1).f0.f1) == a1_1 && (((rd_T98 l0 x10_1).f0.f2) == a1_2))) = true := by simpa using c7))
       (try (have c7b2 : (((rd_T98 l0 x10_1).f0.f0) == a1_0 && (((rd_T98 l0 x10_1).f0.f1) == a1_1 && (((rd_T98 l0 x10_1).f0.f2) == a1_2))) = true := by simpa using c7))
       clear c7
       by_cases c8 : x5_1.length < 17592186044416
       ·rw [if_pos c8] at H
        have LMc8 := Aside0.mk c8
        clear c8
        obtain ⟨y246, hy246⟩ : ∃ y_ : List Int, y_ = (x5_1 ++ [(rd_T98 l0 x10_1).f1]) := ⟨_, rfl⟩
        replace H : (impl_ChangesOf.l0 k1 y246 l0 (l0.length : Int) (wrap64 (x10_1 + 1)) a1_0 a1_1 a1_2) = some r := by first | (rw [hy246]; with_reducible exact H) | (have H2_ := (Option.bind_some _ _).symm.trans H; rw [hy246]; with_reducible exact H2_) | (have H2_ := (Option.bind_some _ _).symm.trans H; with_reducible exact H2_) | with_reducible exact H | (rw [hy246]; exact H) | exact H
        have Ny246 := Aside0.mk hy246
        clear hy246
        have H' := Aside0.mk H
        clear H
        have p244 : 0 ≤ (x10_1 : Int) := of_decide_eq_true (by first | (with_reducible assumption) | assumption)
        have q244 : x10_1 < (l0.length : Int) := of_decide_eq_true (by first | (with_reducible assumption) | assumption)
        obtain ⟨ad244, A244_5, c244_5, e244, hx244_0, hx244_1, hx244_2, hx244_3, hx244_4, hx244_5, hx244_6, hx244_7, hx244_8, hl244_5, hi244_5⟩ := at_T98 HR0.out x10_1 p244 q244
        cases e244
        replace hx244_0 := (HB.out.cell (World.block_lt_of_cell? w _ hx244_0)).trans hx244_0
        replace hx244_1 := (HB.out.cell (World.block_lt_of_cell? w _ hx244_1)).trans hx244_1
        replace hx244_2 := (HB.out.cell (World.block_lt_of_cell? w _ hx244_2)).trans hx244_2
        replace hx244_3 := (HB.out.cell (World.block_lt_of_cell? w _ hx244_3)).trans hx244_3
        replace hx244_4 := (HB.out.cell (World.block_lt_of_cell? w _ hx244_4)).trans hx244_4
        replace hx244_5 := (HB.out.cell (World.block_lt_of_cell? w _ hx244_5)).trans hx244_5
        replace hx244_6 := (HB.out.cell (World.block_lt_of_cell? w _ hx244_6)).trans hx244_6
        replace hx244_7 := (HB.out.cell (World.block_lt_of_cell? w _ hx244_7)).trans hx244_7
        replace hx244_8 := (HB.out.cell (World.block_lt_of_cell? w _ hx244_8)).trans hx244_8
        have HR244_5 := Aside0.mk hi244_5
        have HC244_5 := Aside0.mk hl244_5
        clear hi244_5 hl244_5
        replace p244 := eq_true p244
        replace q244 := eq_true q244
        go_wp2_with (first | ((with_reducible refine gate_dst (N := 7) rfl ?_); refine bx_ (N := 7) #[.int .i64 0, .int .i64 0, .int .i64 0, .int .i64 0, .int .i64 0, .slice none 0 0, .int .i64 0, .int .i64 0, .int .i64 0] 98 ?_; intro gb245 hg w9 hbox hb; have n0_ := ak (Kd.R_below (PR HO_5) hb); have n1_ := ak (kb BK243 hb); have n2_ := ak (below_step PB hb); have n3_ := ak (hbox); have n4_ := ak ((gz hg PB : w.heap.size ≤ gb245)); have n5_ := ak ((gz hg PB : w.heap.size ≤ gb245)); have n6_ := ak ((gl hg BK243 : gb243 ≠ gb245)); have n7_ := ak (((gl hg BK243).symm : gb245 ≠ gb243)); clear HO_5 BK243 HB; have HO_5 := n0_; have BK243 := n1_; have HB := n2_; have BK245 := n3_; have GW245 := n4_; have GE245 := n5_; have NB243_245 := n6_; have NB245_243 := n7_; clear n0_ n1_ n2_ n3_ n4_ n5_ n6_ n7_; clear hb hbox hg; have hnb10 := NB245_243.out; have hnc10 := NB243_245.out; have hcz11_0 : w9.cell? ⟨gb245, 0, none⟩ = some (.int .i64 0) := (blk_cell BK245.out 0).trans rfl; have hcz11_1 : w9.cell? ⟨gb245, 1, none⟩ = some (.int .i64 0) := (blk_cell BK245.out 1).trans rfl; have hcz11_2 : w9.cell? ⟨gb245, 2, none⟩ = some (.int .i64 0) := (blk_cell BK245.out 2).trans rfl; have hcz11_3 : w9.cell? ⟨gb245, 3, none⟩ = some (.int .i64 0) := (blk_cell BK245.out 3).trans rfl; have hcz11_4 : w9.cell? ⟨gb245, 4, none⟩ = some (.int .i64 0) := (blk_cell BK245.out 4).trans rfl; have hcz11_5 : w9.cell? ⟨gb245, 5, none⟩ = some (.slice none 0 0) := (blk_cell BK245.out 5).trans rfl; have hcz11_6 : w9.cell? ⟨gb245, 6, none⟩ = some (.int .i64 0) := (blk_cell BK245.out 6).trans rfl; have hcz11_7 : w9.cell? ⟨gb245, 7, none⟩ = some (.int .i64 0) := (blk_cell BK245.out 7).trans rfl; have hcz11_8 : w9.cell? ⟨gb245, 8, none⟩ = some (.int .i64 0) := (blk_cell BK245.out 8).trans rfl; have hfz11_0 := blk_frozen BK245.out 0; have hfz11_1 := blk_frozen BK245.out 1; have hfz11_2 := blk_frozen BK245.out 2; have hfz11_3 := blk_frozen BK245.out 3; have hfz11_4 := blk_frozen BK245.out 4; have hfz11_5 := blk_frozen BK245.out 5; have hfz11_6 := blk_frozen BK245.out 6; have hfz11_7 := blk_frozen BK245.out 7; have hfz11_8 := blk_frozen BK245.out 8; have hcz12_0 : w9.cell? ⟨gb243, 0, none⟩ = some (.int .i64 a1_0) := (blk_cell BK243.out 0).trans rfl; have hcz12_1 : w9.cell? ⟨gb243, 1, none⟩ = some (.int .i64 a1_1) := (blk_cell BK243.out 1).trans rfl; have hcz12_2 : w9.cell? ⟨gb243, 2, none⟩ = some (.int .i64 a1_2) := (blk_cell BK243.out 2).trans rfl; have hfz12_0 := blk_frozen BK243.out 0; have hfz12_1 := blk_frozen BK243.out 1; have hfz12_2 := blk_frozen BK243.out 2) | ((with_reducible refine gate_builtin (b := .append) (xs := #[.tmp 18, .tmp 21]) rfl ?_); at_builtin; refine Kd.R_append (Kd.int .i64) (w0 := w) w.heap.size rfl (.tmp 18) (.tmp 21) 29 3 (.int .i64 0) 8 rfl Try.underlying29 info3 rfl (by decide) (by omega) u5 x5_1 ((rd_T98 l0 x10_1).f1) [.int .i64 ((rd_T98 l0 x10_1).f1)] (fun _ => True) (fun _ => False) rfl (by first | (go_simp; done) | (go_simp; rfl)) ?aP (fun _ hk => hk.elim) ?aF ?aO ?aB ?aS ?aL ?_; (case aP => exact rfl); (case aB => exact PB); (case aF => exact (fun _ _ => trivial)); (case aO => exact (by (with_reducible repeat (first | apply Kd.R_alloc | apply Kd.R_drewN | apply Kd.R_drew)); exact Kd.R_mono (Kd.R_far (p := ⟨gb245, 8, none⟩) (Kd.R_far (p := ⟨gb245, 7, none⟩) (Kd.R_far (p := ⟨gb245, 6, none⟩) (Kd.R_far (p := ⟨gb245, 5, none⟩) (Kd.R_far (p := ⟨gb245, 4, none⟩) (Kd.R_far (p := ⟨gb245, 3, none⟩) (Kd.R_far (p := ⟨gb245, 2, none⟩) (Kd.R_far (p := ⟨gb245, 1, none⟩) (Kd.R_far (p := ⟨gb245, 0, none⟩) (Kd.R_types HO_5.out BK245.out (by decide)) FK (.int .i64 ((rd_T98 l0 x10_1).f0.f0))) FK (.int .i64 ((rd_T98 l0 x10_1).f0.f1))) FK (.int .i64 ((rd_T98 l0 x10_1).f0.f2))) FK (.int .i64 ((rd_T98 l0 x10_1).f1))) FK (.int .i64 ((rd_T98 l0 x10_1).f2.f0))) FK (.slice A244_5 ((rd_T98 l0 x10_1).f2.f1).length c244_5)) FK (.int .i64 ((rd_T98 l0 x10_1).f2.f2.f0))) FK (.int .i64 ((rd_T98 l0 x10_1).f2.f2.f1))) FK (.int .i64 ((rd_T98 l0 x10_1).f2.f2.f2))) (fun _ hk => trivial))); (case aS => exact (below_size PB)); (case aL => have := LMc8.out; omega); intro v247 w13 ho hb hg hat; rw [← Ny246.out] at ho; have n0_ := ak (blk_grown (g := gb243) (o := .cells #[.int .i64 a1_0, .int .i64 a1_1, .int .i64 a1_2] 26 (0, 0)) (PF BK243) hg (Kd.R_ne HO_5.out BK243.out (by decide))); have n1_ := ak (blk_grown (g := gb245) (o := .cells #[.int .i64 ((rd_T98 l0 x10_1).f0.f0), .int .i64 ((rd_T98 l0 x10_1).f0.f1), .int .i64 ((rd_T98 l0 x10_1).f0.f2), .int .i64 ((rd_T98 l0 x10_1).f1), .int .i64 ((rd_T98 l0 x10_1).f2.f0), .slice A244_5 ((rd_T98 l0 x10_1).f2.f1).length c244_5, .int .i64 ((rd_T98 l0 x10_1).f2.f2.f0), .int .i64 ((rd_T98 l0 x10_1).f2.f2.f1), .int .i64 ((rd_T98 l0 x10_1).f2.f2.f2)] 98 (0, 0)) (by (with_reducible repeat (first | refine blk_drewN ?_ _ | refine blk_drew ?_ | refine blk_alloc ?_ _)); refine blk_put (cs := #[.int .i64 ((rd_T98 l0 x10_1).f0.f0), .int .i64 ((rd_T98 l0 x10_1).f0.f1), .int .i64 ((rd_T98 l0 x10_1).f0.f2), .int .i64 ((rd_T98 l0 x10_1).f1), .int .i64 ((rd_T98 l0 x10_1).f2.f0), .slice A244_5 ((rd_T98 l0 x10_1).f2.f1).length c244_5, .int .i64 ((rd_T98 l0 x10_1).f2.f2.f0), .int .i64 ((rd_T98 l0 x10_1).f2.f2.f1), .int .i64 0]) ?_ 8 _ rfl; (with_reducible repeat (first | refine blk_drewN ?_ _ | refine blk_drew ?_ | refine blk_alloc ?_ _)); refine blk_put (cs := #[.int .i64 ((rd_T98 l0 x10_1).f0.f0), .int .i64 ((rd_T98 l0 x10_1).f0.f1), .int .i64 ((rd_T98 l0 x10_1).f0.f2), .int .i64 ((rd_T98 l0 x10_1).f1), .int .i64 ((rd_T98 l0 x10_1).f2.f0), .slice A244_5 ((rd_T98 l0 x10_1).f2.f1).length c244_5, .int .i64 ((rd_T98 l0 x10_1).f2.f2.f0), .int .i64 0, .int .i64 0]) ?_ 7 _ rfl; (with_reducible repeat (first | refine blk_drewN ?_ _ | refine blk_drew ?_ | refine blk_alloc ?_ _)); refine blk_put (cs := #[.int .i64 ((rd_T98 l0 x10_1).f0.f0), .int .i64 ((rd_T98 l0 x10_1).f0.f1), .int .i64 ((rd_T98 l0 x10_1).f0.f2), .int .i64 ((rd_T98 l0 x10_1).f1), .int .i64 ((rd_T98 l0 x10_1).f2.f0), .slice A244_5 ((rd_T98 l0 x10_1).f2.f1).length c244_5, .int .i64 0, .int .i64 0, .int .i64 0]) ?_ 6 _ rfl; (with_reducible repeat (first | refine blk_drewN ?_ _ | refine blk_drew ?_ | refine blk_alloc ?_ _)); refine blk_put (cs := #[.int .i64 ((rd_T98 l0 x10_1).f0.f0), .int .i64 ((rd_T98 l0 x10_1).f0.f1), .int .i64 ((rd_T98 l0 x10_1).f0.f2), .int .i64 ((rd_T98 l0 x10_1).f1), .int .i64 ((rd_T98 l0 x10_1).f2.f0), .slice none 0 0, .int .i64 0, .int .i64 0, .int .i64 0]) ?_ 5 _ rfl; (with_reducible repeat (first | refine blk_drewN ?_ _ | refine blk_drew ?_ | refine blk_alloc ?_ _)); refine blk_put (cs := #[.int .i64 ((rd_T98 l0 x10_1).f0.f0), .int .i64 ((rd_T98 l0 x10_1).f0.f1), .int .i64 ((rd_T98 l0 x10_1).f0.f2), .int .i64 ((rd_T98 l0 x10_1).f1), .int .i64 0, .slice none 0 0, .int .i64 0, .int .i64 0, .int .i64 0]) ?_ 4 _ rfl; (with_reducible repeat (first | refine blk_drewN ?_ _ | refine blk_drew ?_ | refine blk_alloc ?_ _)); refine blk_put (cs := #[.int .i64 ((rd_T98 l0 x10_1).f0.f0), .int .i64 ((rd_T98 l0 x10_1).f0.f1), .int .i64 ((rd_T98 l0 x10_1).f0.f2), .int .i64 0, .int .i64 0, .slice none 0 0, .int .i64 0, .int .i64 0, .int .i64 0]) ?_ 3 _ rfl; (with_reducible repeat (first | refine blk_drewN ?_ _ | refine blk_drew ?_ | refine blk_alloc ?_ _)); refine blk_put (cs := #[.int .i64 ((rd_T98 l0 x10_1).f0.f0), .int .i64 ((rd_T98 l0 x10_1).f0.f1), .int .i64 0, .int .i64 0, .int .i64 0, .slice none 0 0, .int .i64 0, .int .i64 0, .int .i64 0]) ?_ 2 _ rfl; (with_reducible repeat (first | refine blk_drewN ?_ _ | refine blk_drew ?_ | refine blk_alloc ?_ _)); refine blk_put (cs := #[.int .i64 ((rd_T98 l0 x10_1).f0.f0), .int .i64 0, .int .i64 0, .int .i64 0, .int .i64 0, .slice none 0 0, .int .i64 0, .int .i64 0, .int .i64 0]) ?_ 1 _ rfl; (with_reducible repeat (first | refine blk_drewN ?_ _ | refine blk_drew ?_ | refine blk_alloc ?_ _)); refine blk_put (cs := #[.int .i64 0, .int .i64 0, .int .i64 0, .int .i64 0, .int .i64 0, .slice none 0 0, .int .i64 0, .int .i64 0, .int .i64 0]) ?_ 0 _ rfl; (with_reducible repeat (first | refine blk_drewN ?_ _ | refine blk_drew ?_ | refine blk_alloc ?_ _)); exact BK245.out) hg (Kd.R_ne HO_5.out BK245.out (by decide))); have n2_ := ak (hb); have n3_ := ak (ho); clear BK243 BK245 HB HO_5; have BK243 := n0_; have BK245 := n1_; have HB := n2_; have HO248 := n3_; clear n0_ n1_ n2_ n3_; clear ho hb hg hat))
        go_roundg k1
        case measure => have := HK1.out; omega
        case rel => exact ⟨(y246), (wrap64 (x10_1 + 1)), (by first | rfl | (simp; done) | (simp [*]; done)), H', ⟨by have := HK1.out; omega⟩, ⟨PR HO248⟩, ⟨PK BK243⟩, ⟨PB⟩⟩
       ·rw [if_neg c8] at H
        exact absurd H (by simp)
      ·rw [if_neg c7] at H
       have c7b0 : (((rd_T98 l0 x10_1).f0.f0) == a1_0 && (((rd_T98 l0 x10_1).f0.f1) == a1_1 && (((rd_T98 l0 x10_1).f0.f2) == a1_2))) = false := by simpa using c7
       (try (have c7b1 : decide (((rd_T98 l0 x10_1).f0.f0) = a1_0 && (((rd_T98 l0 x10_1).f0.f1) == a1_1 && (((rd_T98 l0 x10_1).f0.f2) == a1_2))) = false := by simpa using c7))
       (try (have c7b2 : (((rd_T98 l0 x10_1).f0.f0) == a1_0 && (((rd_T98 l0 x10_1).f0.f1) == a1_1 && (((rd_T98 l0 x10_1).f0.f2) == a1_2))) = false := by simpa using c7))
       (try (have c7b3 : ¬ (((rd_T98 l0 x10_1).f0.f0) = a1_0 && (((rd_T98 l0 x10_1).f0.f1) == a1_1 && (((rd_T98 l0 x10_1).f0.f2) == a1_2))) := by simpa using c7))
       clear c7
       have H' := Aside0.mk H
       clear H
       have p244 : 0 ≤ (x10_1 : Int) := of_decide_eq_true (by first | (with_reducible assumption) | assumption)
       have q244 : x10_1 < (l0.length : Int) := of_decide_eq_true (by first | (with_reducible assumption) | assumption)
       obtain ⟨ad244, A244_5, c244_5, e244, hx244_0, hx244_1, hx244_2, hx244_3, hx244_4, hx244_5, hx244_6, hx244_7, hx244_8, hl244_5, hi244_5⟩ := at_T98 HR0.out x10_1 p244 q244
       cases e244
       replace hx244_0 := (HB.out.cell (World.block_lt_of_cell? w _ hx244_0)).trans hx244_0
       replace hx244_1 := (HB.out.cell (World.block_lt_of_cell? w _ hx244_1)).trans hx244_1
       replace hx244_2 := (HB.out.cell (World.block_lt_of_cell? w _ hx244_2)).trans hx244_2
       replace hx244_3 := (HB.out.cell (World.block_lt_of_cell? w _ hx244_3)).trans hx244_3
       replace hx244_4 := (HB.out.cell (World.block_lt_of_cell? w _ hx244_4)).trans hx244_4
       replace hx244_5 := (HB.out.cell (World.block_lt_of_cell? w _ hx244_5)).trans hx244_5
       replace hx244_6 := (HB.out.cell (World.block_lt_of_cell? w _ hx244_6)).trans hx244_6
       replace hx244_7 := (HB.out.cell (World.block_lt_of_cell? w _ hx244_7)).trans hx244_7
       replace hx244_8 := (HB.out.cell (World.block_lt_of_cell? w _ hx244_8)).trans hx244_8
       have HR244_5 := Aside0.mk hi244_5
       have HC244_5 := Aside0.mk hl244_5
       clear hi244_5 hl244_5
       replace p244 := eq_true p244
       replace q244 := eq_true q244
       go_wp2_with (first | ((with_reducible refine gate_dst (N := 7) rfl ?_); refine bx_ (N := 7) #[.int .i64 0, .int .i64 0, .int .i64 0, .int .i64 0, .int .i64 0, .slice none 0 0, .int .i64 0, .int .i64 0, .int .i64 0] 98 ?_; intro gb245 hg w14 hbox hb; have n0_ := ak (Kd.R_below (PR HO_5) hb); have n1_ := ak (kb BK243 hb); have n2_ := ak (below_step PB hb); have n3_ := ak (hbox); have n4_ := ak ((gz hg PB : w.heap.size ≤ gb245)); have n5_ := ak ((gz hg PB : w.heap.size ≤ gb245)); have n6_ := ak ((gl hg BK243 : gb243 ≠ gb245)); have n7_ := ak (((gl hg BK243).symm : gb245 ≠ gb243)); clear HO_5 BK243 HB; have HO_5 := n0_; have BK243 := n1_; have HB := n2_; have BK245 := n3_; have GW245 := n4_; have GE245 := n5_; have NB243_245 := n6_; have NB245_243 := n7_; clear n0_ n1_ n2_ n3_ n4_ n5_ n6_ n7_; clear hb hbox hg; have hnb15 := NB245_243.out; have hnc15 := NB243_245.out; have hcz16_0 : w14.cell? ⟨gb245, 0, none⟩ = some (.int .i64 0) := (blk_cell BK245.out 0).trans rfl; have hcz16_1 : w14.cell? ⟨gb245, 1, none⟩ = some (.int .i64 0) := (blk_cell BK245.out 1).trans rfl; have hcz16_2 : w14.cell? ⟨gb245, 2, none⟩ = some (.int .i64 0) := (blk_cell BK245.out 2).trans rfl; have hcz16_3 : w14.cell? ⟨gb245, 3, none⟩ = some (.int .i64 0) := (blk_cell BK245.out 3).trans rfl; have hcz16_4 : w14.cell? ⟨gb245, 4, none⟩ = some (.int .i64 0) := (blk_cell BK245.out 4).trans rfl; have hcz16_5 : w14.cell? ⟨gb245, 5, none⟩ = some (.slice none 0 0) := (blk_cell BK245.out 5).trans rfl; have hcz16_6 : w14.cell? ⟨gb245, 6, none⟩ = some (.int .i64 0) := (blk_cell BK245.out 6).trans rfl; have hcz16_7 : w14.cell? ⟨gb245, 7, none⟩ = some (.int .i64 0) := (blk_cell BK245.out 7).trans rfl; have hcz16_8 : w14.cell? ⟨gb245, 8, none⟩ = some (.int .i64 0) := (blk_cell BK245.out 8).trans rfl; have hfz16_0 := blk_frozen BK245.out 0; have hfz16_1 := blk_frozen BK245.out 1; have hfz16_2 := blk_frozen BK245.out 2; have hfz16_3 := blk_frozen BK245.out 3; have hfz16_4 := blk_frozen BK245.out 4; have hfz16_5 := blk_frozen BK245.out 5; have hfz16_6 := blk_frozen BK245.out 6; have hfz16_7 := blk_frozen BK245.out 7; have hfz16_8 := blk_frozen BK245.out 8; have hcz17_0 : w14.cell? ⟨gb243, 0, none⟩ = some (.int .i64 a1_0) := (blk_cell BK243.out 0).trans rfl; have hcz17_1 : w14.cell? ⟨gb243, 1, none⟩ = some (.int .i64 a1_1) := (blk_cell BK243.out 1).trans rfl; have hcz17_2 : w14.cell? ⟨gb243, 2, none⟩ = some (.int .i64 a1_2) := (blk_cell BK243.out 2).trans rfl; have hfz17_0 := blk_frozen BK243.out 0; have hfz17_1 := blk_frozen BK243.out 1; have hfz17_2 := blk_frozen BK243.out 2))
       go_roundg k1
       case measure => have := HK1.out; omega
       case rel => exact ⟨(x5_1), (wrap64 (x10_1 + 1)), (by first | rfl | (simp; done) | (simp [*]; done)), H', ⟨by have := HK1.out; omega⟩, ⟨by (with_reducible repeat (first | apply Kd.R_alloc | apply Kd.R_drewN | apply Kd.R_drew)); exact Kd.R_mono (Kd.R_far (p := ⟨gb245, 8, none⟩) (Kd.R_far (p := ⟨gb245, 7, none⟩) (Kd.R_far (p := ⟨gb245, 6, none⟩) (Kd.R_far (p := ⟨gb245, 5, none⟩) (Kd.R_far (p := ⟨gb245, 4, none⟩) (Kd.R_far (p := ⟨gb245, 3, none⟩) (Kd.R_far (p := ⟨gb245, 2, none⟩) (Kd.R_far (p := ⟨gb245, 1, none⟩) (Kd.R_far (p := ⟨gb245, 0, none⟩) (Kd.R_types HO_5.out BK245.out (by decide)) FK (.int .i64 ((rd_T98 l0 x10_1).f0.f0))) FK (.int .i64 ((rd_T98 l0 x10_1).f0.f1))) FK (.int .i64 ((rd_T98 l0 x10_1).f0.f2))) FK (.int .i64 ((rd_T98 l0 x10_1).f1))) FK (.int .i64 ((rd_T98 l0 x10_1).f2.f0))) FK (.slice A244_5 ((rd_T98 l0 x10_1).f2.f1).length c244_5)) FK (.int .i64 ((rd_T98 l0 x10_1).f2.f2.f0))) FK (.int .i64 ((rd_T98 l0 x10_1).f2.f2.f1))) FK (.int .i64 ((rd_T98 l0 x10_1).f2.f2.f2))) (fun _ hk => trivial)⟩, ⟨PF BK243⟩, ⟨PB⟩⟩
     ·rw [if_neg c6] at H
      exact absurd H (by simp)
    ·rw [if_neg c5] at H
     exact absurd H (by simp)
   ·rw [if_neg c4] at H
    have c4b0 : decide (x10_1 < (l0.length : Int)) = false := decide_eq_false c4
    clear c4
    replace H := Option.bind_eq_some_iff.mp H
    obtain ⟨t249, A180, H⟩ := H
    replace H : (some t249) = some r := H
    have A18 := Aside0.mk A180
    clear A180
    obtain rfl := Option.some.inj H
    obtain ⟨Ao19, co19, eo19⟩ := Kd.R_slice HO_5.out
    subst eo19
    go_wp2_with (first | ((with_reducible refine gate_callee (f := 59) rfl ?_); refine goesL_ (some 25) rfl rfl Try.func59 KR rfl #[.slice Ao19 x5_1.length co19] rfl AR ?_; (with_reducible refine (impl_sorted.calls _ _ x5_1 t249 _ ?side1 ?side2 A18.out).mono ?_); (case side1 => exact CR ((Kd.R_reads' HO_5.out).2.2)); (case side2 => exact (Kd.R_reads' HO_5.out).2.1); rintro e w20 ⟨v250, rfl, ho0, hb⟩; refine ⟨_, rfl, ?_⟩; have n0_ := ak (Kd.R_elder' (PR HO_5) (Kd.R_base ho0) hb); have n1_ := ak (Kd.R_lower (Kd.R_new' ho0 (Kd.R_lt (PR HO_5))) (below_size PB)); have n2_ := ak (kb BK243 hb); have n3_ := ak (below_step PB hb); clear HO_5 BK243 HB; have HO_5 := n0_; have HO251 := n1_; have BK243 := n2_; have HB := n3_; clear n0_ n1_ n2_ n3_; (try clear hb); (try clear hb2); (try clear hk); (try clear hi); (try clear ho0)))
    go_ret
    exact ⟨_, RT, by (with_reducible repeat (first | apply Kd.R_alloc | apply Kd.R_drewN | apply Kd.R_drew)); exact Kd.R_mono HO251.out (fun _ hk => trivial), PB⟩

/-! ### slices_Equal_int_int: function 60 -/
def slices_Equal_int_int.l0 : Nat → List Int → List Int → Int → Int → Option (Bool)
  | 0, _, _, _, _ => none
  | k + 1, x0, x1, x12, x13 => if x13 < x12 then (if 0 ≤ x13 then (if x13 < (x0.length : Int) then (if x13 < (x1.length : Int) then (if (rd x0 x13) = (rd x1 x13) then (slices_Equal_int_int.l0 k x0 x1 x12 (wrap64 (x13 + 1))) else (some false)) else (none)) else (none)) else (none)) else (some true)
def slices_Equal_int_int.f (k : Nat) (l0 : List Int) (l1 : List Int) : Option (Bool) := if (l0.length : Int) = (l1.length : Int) then (slices_Equal_int_int.l0 k l0 l1 (l0.length : Int) 0) else (some false)
set_option maxHeartbeats 8000000 in
set_option maxRecDepth 100000 in
theorem slices_Equal_int_int.calls (k : Nat) (A0 : Option Addr) (c0 : Nat) (l0 : List Int) (A1 : Option Addr) (c1 : Nat) (l1 : List Int) (r : Bool) (w : World) (hr0 : Kd.C (Kd.int .i64) w A0 l0.length l0) (hc0 : l0.length ≤ c0) (hr1 : Kd.C (Kd.int .i64) w A1 l1.length l1) (hc1 : l1.length ≤ c1) (h : slices_Equal_int_int.f k l0 l1 = some r) :
  Calls Try.prog 60 #[.slice A0 l0.length c0, .slice A1 l1.length c1] w fun e w' => e = .returned (.bool r) ∧ Drawn0 w w' := by
 have HR0 := Aside0.mk hr0
 have HC0 := Aside0.mk hc0
 clear hr0 hc0
 have HR1 := Aside0.mk hr1
 have HC1 := Aside0.mk hc1
 clear hr1 hc1
 have H : (if (l0.length : Int) = (l1.length : Int) then (slices_Equal_int_int.l0 k l0 l1 (l0.length : Int) 0) else (some false)) = some r := h
 clear h
 by_cases c3 : (l0.length : Int) = (l1.length : Int)
 ·rw [if_pos c3] at H
  have c3b0 : ((l0.length : Int) == (l1.length : Int)) = true := beq_iff_eq.mpr c3
  have c3b1 : ((l0.length : Int) != (l1.length : Int)) = false := bne_eq_false_iff_eq.mpr c3
  have c3b2 : (l0.length == l1.length) = true := by first | simpa using c3 | (simp at c3 ⊢; omega)
  clear c3
  have H' := Aside0.mk H
  clear H
  go_enter Try.func60, Try.ntmps60
  go_wp2
  repeat (go_quiet (fail); try go_wp2)
  go_loopg [13] k (fun kq v13 w' => ∃ (x13_1 : Int), v13 = .int .i64 x13_1 ∧ Aside0 (slices_Equal_int_int.l0 kq l0 l1 (l0.length : Int) x13_1 = some r) ∧ Aside0 (kq ≤ k) ∧ Drawn0 w w')
  case atStart => exact ⟨(0), (by first | rfl | (simp; done) | (simp [*]; done)), H', ⟨Nat.le_refl _⟩, by repeat (first | exact Drawn0.refl _ | apply Drawn0.step)⟩
  case round =>
   clear H'
   (try clear c1); (try clear p2); (try clear c3); (try clear c3b0); (try clear c3b1); (try clear c3b2)
   obtain ⟨x13_1, rfl, HA, HK1, ⟨m1, rfl⟩⟩ := hrel
   cases gk with
   | zero => exact absurd HA.out (by simp [slices_Equal_int_int.l0])
   | succ k1 =>
    have H := HA.out
    clear HA
    simp only [slices_Equal_int_int.l0] at H
    by_cases c4 : x13_1 < (l0.length : Int)
    ·rw [if_pos c4] at H
     have c4b0 : decide (x13_1 < (l0.length : Int)) = true := decide_eq_true c4
     clear c4
     by_cases c5 : 0 ≤ x13_1
     ·rw [if_pos c5] at H
      have c5b0 : decide (0 ≤ x13_1) = true := decide_eq_true c5
      clear c5
      by_cases c6 : x13_1 < (l0.length : Int)
      ·rw [if_pos c6] at H
       have c6b0 : decide (x13_1 < (l0.length : Int)) = true := decide_eq_true c6
       clear c6
       by_cases c7 : x13_1 < (l1.length : Int)
       ·rw [if_pos c7] at H
        have c7b0 : decide (x13_1 < (l1.length : Int)) = true := decide_eq_true c7
        clear c7
        by_cases c8 : (rd l0 x13_1) = (rd l1 x13_1)
        ·rw [if_pos c8] at H
         have c8b0 : ((rd l0 x13_1) == (rd l1 x13_1)) = true := beq_iff_eq.mpr c8
         have c8b1 : ((rd l0 x13_1) != (rd l1 x13_1)) = false := bne_eq_false_iff_eq.mpr c8
         clear c8
         have H' := Aside0.mk H
         clear H
         have p252 : 0 ≤ (x13_1 : Int) := of_decide_eq_true (by first | (with_reducible assumption) | assumption)
         have q252 : x13_1 < (l0.length : Int) := of_decide_eq_true (by first | (with_reducible assumption) | assumption)
         obtain ⟨ad252, e252, hx252_0⟩ := Kd.at_int HR0.out x13_1 p252 q252
         cases e252
         replace p252 := eq_true p252
         replace q252 := eq_true q252
         have p253 : 0 ≤ (x13_1 : Int) := of_decide_eq_true (by first | (with_reducible assumption) | assumption)
         have q253 : x13_1 < (l1.length : Int) := of_decide_eq_true (by first | (with_reducible assumption) | assumption)
         obtain ⟨ad253, e253, hx253_0⟩ := Kd.at_int HR1.out x13_1 p253 q253
         cases e253
         replace p253 := eq_true p253
         replace q253 := eq_true q253
         go_wp2
         repeat (go_quiet (fail); try go_wp2)
         go_roundg k1
         case measure => have := HK1.out; omega
         case rel => exact ⟨(wrap64 (x13_1 + 1)), (by first | rfl | (simp; done) | (simp [*]; done)), H', ⟨by have := HK1.out; omega⟩, by repeat (first | exact Drawn0.refl _ | apply Drawn0.step)⟩
        ·rw [if_neg c8] at H
         have c8b0 : ((rd l0 x13_1) == (rd l1 x13_1)) = false := beq_eq_false_iff_ne.mpr c8
         have c8b1 : ((rd l0 x13_1) != (rd l1 x13_1)) = true := bne_iff_ne.mpr c8
         obtain rfl := Option.some.inj H
         have p252 : 0 ≤ (x13_1 : Int) := of_decide_eq_true (by first | (with_reducible assumption) | assumption)
         have q252 : x13_1 < (l0.length : Int) := of_decide_eq_true (by first | (with_reducible assumption) | assumption)
         obtain ⟨ad252, e252, hx252_0⟩ := Kd.at_int HR0.out x13_1 p252 q252
         cases e252
         replace p252 := eq_true p252
         replace q252 := eq_true q252
         have p253 : 0 ≤ (x13_1 : Int) := of_decide_eq_true (by first | (with_reducible assumption) | assumption)
         have q253 : x13_1 < (l1.length : Int) := of_decide_eq_true (by first | (with_reducible assumption) | assumption)
         obtain ⟨ad253, e253, hx253_0⟩ := Kd.at_int HR1.out x13_1 p253 q253
         cases e253
         replace p253 := eq_true p253
         replace q253 := eq_true q253
         go_wp2
         repeat (go_quiet (fail); try go_wp2)
         go_ret
         exact ⟨by first | rfl | (simp; done) | (simp [*]; done), by repeat (first | exact Drawn0.refl _ | apply Drawn0.step)⟩
       ·rw [if_neg c7] at H
        exact absurd H (by simp)
      ·rw [if_neg c6] at H
       exact absurd H (by simp)
     ·rw [if_neg c5] at H
      exact absurd H (by simp)
    ·rw [if_neg c4] at H
     have c4b0 : decide (x13_1 < (l0.length : Int)) = false := decide_eq_false c4
     clear c4
     obtain rfl := Option.some.inj H
     go_wp2
     repeat (go_quiet (fail); try go_wp2)
     go_ret
     exact ⟨by first | rfl | (simp; done) | (simp [*]; done), by repeat (first | exact Drawn0.refl _ | apply Drawn0.step)⟩
 ·rw [if_neg c3] at H
  have c3b0 : ((l0.length : Int) == (l1.length : Int)) = false := beq_eq_false_iff_ne.mpr c3
  have c3b1 : ((l0.length : Int) != (l1.length : Int)) = true := bne_iff_ne.mpr c3
  have c3b2 : (l0.length == l1.length) = false := by first | simpa using c3 | (simp at c3 ⊢; omega)
  obtain rfl := Option.some.inj H
  go_enter Try.func60, Try.ntmps60
  go_wp2
  repeat (go_quiet (fail); try go_wp2)
  go_ret
  exact ⟨by first | rfl | (simp; done) | (simp [*]; done), by repeat (first | exact Drawn0.refl _ | apply Drawn0.step)⟩

attribute [local go_sem high] eqA26
/-! ### impl_EqualResources: function 14 -/
def impl_EqualResources.f (k : Nat) (a0_0 : Int) (l0_1 : List Int) (a0_2 : Int) (a0_3 : Int) (a0_4 : Int) (a1_0 : Int) (l1_1 : List Int) (a1_2 : Int) (a1_3 : Int) (a1_4 : Int) : Option (Bool) := if a0_0 = a1_0 then (if (a0_2 == a1_2 && (a0_3 == a1_3 && (a0_4 == a1_4))) = true then ((slices_Equal_int_int.f k l0_1 l1_1).bind fun t256 => (some t256)) else (some false)) else (some false)
set_option maxHeartbeats 8000000 in
set_option maxRecDepth 100000 in
theorem impl_EqualResources.calls (k : Nat) (a0_0 : Int) (A0_1 : Option Addr) (c0_1 : Nat) (l0_1 : List Int) (a0_2 : Int) (a0_3 : Int) (a0_4 : Int) (a1_0 : Int) (A1_1 : Option Addr) (c1_1 : Nat) (l1_1 : List Int) (a1_2 : Int) (a1_3 : Int) (a1_4 : Int) (r : Bool) (w : World) (hr0_1 : Kd.C (Kd.int .i64) w A0_1 l0_1.length l0_1) (hc0_1 : l0_1.length ≤ c0_1) (hr1_1 : Kd.C (Kd.int .i64) w A1_1 l1_1.length l1_1) (hc1_1 : l1_1.length ≤ c1_1) (h : impl_EqualResources.f k a0_0 l0_1 a0_2 a0_3 a0_4 a1_0 l1_1 a1_2 a1_3 a1_4 = some r) :
  Calls Try.prog 14 #[.agg #[.int .i64 a0_0, .slice A0_1 l0_1.length c0_1, .int .i64 a0_2, .int .i64 a0_3, .int .i64 a0_4], .agg #[.int .i64 a1_0, .slice A1_1 l1_1.length c1_1, .int .i64 a1_2, .int .i64 a1_3, .int .i64 a1_4]] w fun e w' => e = .returned (.bool r) ∧ Below w.heap.size w w' := by
 have hu31 := Try.underlying31
 have hu26 := Try.underlying26
 have HR0_1 := Aside0.mk hr0_1
 have HC0_1 := Aside0.mk hc0_1
 clear hr0_1 hc0_1
 have HR1_1 := Aside0.mk hr1_1
 have HC1_1 := Aside0.mk hc1_1
 clear hr1_1 hc1_1
 have HB := ak (Below.refl w.heap.size w)
 have H : (if a0_0 = a1_0 then (if (a0_2 == a1_2 && (a0_3 == a1_3 && (a0_4 == a1_4))) = true then ((slices_Equal_int_int.f k l0_1 l1_1).bind fun t256 => (some t256)) else (some false)) else (some false)) = some r := h
 clear h
 by_cases c3 : a0_0 = a1_0
 ·rw [if_pos c3] at H
  have c3b0 : (a0_0 == a1_0) = true := beq_iff_eq.mpr c3
  have c3b1 : (a0_0 != a1_0) = false := bne_eq_false_iff_eq.mpr c3
  clear c3
  by_cases c4 : (a0_2 == a1_2 && (a0_3 == a1_3 && (a0_4 == a1_4))) = true
  ·rw [if_pos c4] at H
   have c4b0 : (a0_2 == a1_2 && (a0_3 == a1_3 && (a0_4 == a1_4))) = true := c4
   (try (have c4b1 : decide (a0_2 = a1_2 && (a0_3 == a1_3 && (a0_4 == a1_4))) = true := by simpa using c4))
   (try (have c4b2 : (a0_2 == a1_2 && (a0_3 == a1_3 && (a0_4 == a1_4))) = true := by simpa using c4))
   clear c4
   replace H := Option.bind_eq_some_iff.mp H
   obtain ⟨t256, A50, H⟩ := H
   replace H : (some t256) = some r := H
   have A5 := Aside0.mk A50
   clear A50
   obtain rfl := Option.some.inj H
   go_enter Try.func14, Try.ntmps14
   go_wp2_with (first | ((with_reducible refine gate_dst (N := 2) rfl ?_); refine bx_ (N := 2) #[.int .i64 a0_0, .slice A0_1 l0_1.length c0_1, .int .i64 a0_2, .int .i64 a0_3, .int .i64 a0_4] 31 ?_; intro gb254 hg w6 hbox hb; have n0_ := ak (below_step PB hb); have n1_ := ak (hbox); have n2_ := ak ((gz hg PB : w.heap.size ≤ gb254)); have n3_ := ak ((gz hg PB : w.heap.size ≤ gb254)); clear HB; have HB := n0_; have BK254 := n1_; have GW254 := n2_; have GE254 := n3_; clear n0_ n1_ n2_ n3_; clear hb hbox hg) | ((with_reducible refine gate_dst (N := 3) rfl ?_); refine bx_ (N := 3) #[.int .i64 a1_0, .slice A1_1 l1_1.length c1_1, .int .i64 a1_2, .int .i64 a1_3, .int .i64 a1_4] 31 ?_; intro gb255 hg w7 hbox hb; have n0_ := ak (kb BK254 hb); have n1_ := ak (below_step PB hb); have n2_ := ak (hbox); have n3_ := ak ((gz hg PB : w.heap.size ≤ gb255)); have n4_ := ak ((gz hg PB : w.heap.size ≤ gb255)); have n5_ := ak ((gl hg BK254 : gb254 ≠ gb255)); have n6_ := ak (((gl hg BK254).symm : gb255 ≠ gb254)); clear BK254 HB; have BK254 := n0_; have HB := n1_; have BK255 := n2_; have GW255 := n3_; have GE255 := n4_; have NB254_255 := n5_; have NB255_254 := n6_; clear n0_ n1_ n2_ n3_ n4_ n5_ n6_; clear hb hbox hg; have hnb8 := NB254_255.out; have hnc8 := NB255_254.out; have hcz9_0 : w7.cell? ⟨gb254, 0, none⟩ = some (.int .i64 a0_0) := (blk_cell BK254.out 0).trans rfl; have hcz9_1 : w7.cell? ⟨gb254, 1, none⟩ = some (.slice A0_1 l0_1.length c0_1) := (blk_cell BK254.out 1).trans rfl; have hcz9_2 : w7.cell? ⟨gb254, 2, none⟩ = some (.int .i64 a0_2) := (blk_cell BK254.out 2).trans rfl; have hcz9_3 : w7.cell? ⟨gb254, 3, none⟩ = some (.int .i64 a0_3) := (blk_cell BK254.out 3).trans rfl; have hcz9_4 : w7.cell? ⟨gb254, 4, none⟩ = some (.int .i64 a0_4) := (blk_cell BK254.out 4).trans rfl; have hfz9_0 := blk_frozen BK254.out 0; have hfz9_1 := blk_frozen BK254.out 1; have hfz9_2 := blk_frozen BK254.out 2; have hfz9_3 := blk_frozen BK254.out 3; have hfz9_4 := blk_frozen BK254.out 4; have hcz10_0 : w7.cell? ⟨gb255, 0, none⟩ = some (.int .i64 a1_0) := (blk_cell BK255.out 0).trans rfl; have hcz10_1 : w7.cell? ⟨gb255, 1, none⟩ = some (.slice A1_1 l1_1.length c1_1) := (blk_cell BK255.out 1).trans rfl; have hcz10_2 : w7.cell? ⟨gb255, 2, none⟩ = some (.int .i64 a1_2) := (blk_cell BK255.out 2).trans rfl; have hcz10_3 : w7.cell? ⟨gb255, 3, none⟩ = some (.int .i64 a1_3) := (blk_cell BK255.out 3).trans rfl; have hcz10_4 : w7.cell? ⟨gb255, 4, none⟩ = some (.int .i64 a1_4) := (blk_cell BK255.out 4).trans rfl; have hfz10_0 := blk_frozen BK255.out 0; have hfz10_1 := blk_frozen BK255.out 1; have hfz10_2 := blk_frozen BK255.out 2; have hfz10_3 := blk_frozen BK255.out 3; have hfz10_4 := blk_frozen BK255.out 4) | (go_at_call 60; (with_reducible refine (slices_Equal_int_int.calls k _ _ l0_1 _ _ l1_1 t256 _ ?side1 ?side2 ?side3 ?side4 A5.out).mono ?_); (case side1 => repeat (first | exact (Kd.C_below HR0_1.out HB.out) | (with_reducible refine Kd.C_alloc ?_ _) | (with_reducible refine Kd.C_drewN ?_ _) | (with_reducible refine Kd.C_drew ?_))); (case side2 => exact HC0_1.out); (case side3 => repeat (first | exact (Kd.C_below HR1_1.out HB.out) | (with_reducible refine Kd.C_alloc ?_ _) | (with_reducible refine Kd.C_drewN ?_ _) | (with_reducible refine Kd.C_drew ?_))); (case side4 => exact HC1_1.out); rintro e w' ⟨rfl, ⟨nd, rfl⟩⟩))
   go_ret
   exact ⟨RT, PB⟩
  ·rw [if_neg c4] at H
   have c4b0 : (a0_2 == a1_2 && (a0_3 == a1_3 && (a0_4 == a1_4))) = false := by simpa using c4
   (try (have c4b1 : decide (a0_2 = a1_2 && (a0_3 == a1_3 && (a0_4 == a1_4))) = false := by simpa using c4))
   (try (have c4b2 : (a0_2 == a1_2 && (a0_3 == a1_3 && (a0_4 == a1_4))) = false := by simpa using c4))
   (try (have c4b3 : ¬ (a0_2 = a1_2 && (a0_3 == a1_3 && (a0_4 == a1_4))) := by simpa using c4))
   clear c4
   obtain rfl := Option.some.inj H
   go_enter Try.func14, Try.ntmps14
   go_wp2_with (first | ((with_reducible refine gate_dst (N := 2) rfl ?_); refine bx_ (N := 2) #[.int .i64 a0_0, .slice A0_1 l0_1.length c0_1, .int .i64 a0_2, .int .i64 a0_3, .int .i64 a0_4] 31 ?_; intro gb254 hg w11 hbox hb; have n0_ := ak (below_step PB hb); have n1_ := ak (hbox); have n2_ := ak ((gz hg PB : w.heap.size ≤ gb254)); have n3_ := ak ((gz hg PB : w.heap.size ≤ gb254)); clear HB; have HB := n0_; have BK254 := n1_; have GW254 := n2_; have GE254 := n3_; clear n0_ n1_ n2_ n3_; clear hb hbox hg) | ((with_reducible refine gate_dst (N := 3) rfl ?_); refine bx_ (N := 3) #[.int .i64 a1_0, .slice A1_1 l1_1.length c1_1, .int .i64 a1_2, .int .i64 a1_3, .int .i64 a1_4] 31 ?_; intro gb255 hg w12 hbox hb; have n0_ := ak (kb BK254 hb); have n1_ := ak (below_step PB hb); have n2_ := ak (hbox); have n3_ := ak ((gz hg PB : w.heap.size ≤ gb255)); have n4_ := ak ((gz hg PB : w.heap.size ≤ gb255)); have n5_ := ak ((gl hg BK254 : gb254 ≠ gb255)); have n6_ := ak (((gl hg BK254).symm : gb255 ≠ gb254)); clear BK254 HB; have BK254 := n0_; have HB := n1_; have BK255 := n2_; have GW255 := n3_; have GE255 := n4_; have NB254_255 := n5_; have NB255_254 := n6_; clear n0_ n1_ n2_ n3_ n4_ n5_ n6_; clear hb hbox hg; have hnb13 := NB254_255.out; have hnc13 := NB255_254.out; have hcz14_0 : w12.cell? ⟨gb254, 0, none⟩ = some (.int .i64 a0_0) := (blk_cell BK254.out 0).trans rfl; have hcz14_1 : w12.cell? ⟨gb254, 1, none⟩ = some (.slice A0_1 l0_1.length c0_1) := (blk_cell BK254.out 1).trans rfl; have hcz14_2 : w12.cell? ⟨gb254, 2, none⟩ = some (.int .i64 a0_2) := (blk_cell BK254.out 2).trans rfl; have hcz14_3 : w12.cell? ⟨gb254, 3, none⟩ = some (.int .i64 a0_3) := (blk_cell BK254.out 3).trans rfl; have hcz14_4 : w12.cell? ⟨gb254, 4, none⟩ = some (.int .i64 a0_4) := (blk_cell BK254.out 4).trans rfl; have hfz14_0 := blk_frozen BK254.out 0; have hfz14_1 := blk_frozen BK254.out 1; have hfz14_2 := blk_frozen BK254.out 2; have hfz14_3 := blk_frozen BK254.out 3; have hfz14_4 := blk_frozen BK254.out 4; have hcz15_0 : w12.cell? ⟨gb255, 0, none⟩ = some (.int .i64 a1_0) := (blk_cell BK255.out 0).trans rfl; have hcz15_1 : w12.cell? ⟨gb255, 1, none⟩ = some (.slice A1_1 l1_1.length c1_1) := (blk_cell BK255.out 1).trans rfl; have hcz15_2 : w12.cell? ⟨gb255, 2, none⟩ = some (.int .i64 a1_2) := (blk_cell BK255.out 2).trans rfl; have hcz15_3 : w12.cell? ⟨gb255, 3, none⟩ = some (.int .i64 a1_3) := (blk_cell BK255.out 3).trans rfl; have hcz15_4 : w12.cell? ⟨gb255, 4, none⟩ = some (.int .i64 a1_4) := (blk_cell BK255.out 4).trans rfl; have hfz15_0 := blk_frozen BK255.out 0; have hfz15_1 := blk_frozen BK255.out 1; have hfz15_2 := blk_frozen BK255.out 2; have hfz15_3 := blk_frozen BK255.out 3; have hfz15_4 := blk_frozen BK255.out 4))
   go_ret
   exact ⟨RT, PB⟩
 ·rw [if_neg c3] at H
  have c3b0 : (a0_0 == a1_0) = false := beq_eq_false_iff_ne.mpr c3
  have c3b1 : (a0_0 != a1_0) = true := bne_iff_ne.mpr c3
  obtain rfl := Option.some.inj H
  go_enter Try.func14, Try.ntmps14
  go_wp2_with (first | ((with_reducible refine gate_dst (N := 2) rfl ?_); refine bx_ (N := 2) #[.int .i64 a0_0, .slice A0_1 l0_1.length c0_1, .int .i64 a0_2, .int .i64 a0_3, .int .i64 a0_4] 31 ?_; intro gb254 hg w16 hbox hb; have n0_ := ak (below_step PB hb); have n1_ := ak (hbox); have n2_ := ak ((gz hg PB : w.heap.size ≤ gb254)); have n3_ := ak ((gz hg PB : w.heap.size ≤ gb254)); clear HB; have HB := n0_; have BK254 := n1_; have GW254 := n2_; have GE254 := n3_; clear n0_ n1_ n2_ n3_; clear hb hbox hg) | ((with_reducible refine gate_dst (N := 3) rfl ?_); refine bx_ (N := 3) #[.int .i64 a1_0, .slice A1_1 l1_1.length c1_1, .int .i64 a1_2, .int .i64 a1_3, .int .i64 a1_4] 31 ?_; intro gb255 hg w17 hbox hb; have n0_ := ak (kb BK254 hb); have n1_ := ak (below_step PB hb); have n2_ := ak (hbox); have n3_ := ak ((gz hg PB : w.heap.size ≤ gb255)); have n4_ := ak ((gz hg PB : w.heap.size ≤ gb255)); have n5_ := ak ((gl hg BK254 : gb254 ≠ gb255)); have n6_ := ak (((gl hg BK254).symm : gb255 ≠ gb254)); clear BK254 HB; have BK254 := n0_; have HB := n1_; have BK255 := n2_; have GW255 := n3_; have GE255 := n4_; have NB254_255 := n5_; have NB255_254 := n6_; clear n0_ n1_ n2_ n3_ n4_ n5_ n6_; clear hb hbox hg; have hnb18 := NB254_255.out; have hnc18 := NB255_254.out; have hcz19_0 : w17.cell? ⟨gb254, 0, none⟩ = some (.int .i64 a0_0) := (blk_cell BK254.out 0).trans rfl; have hcz19_1 : w17.cell? ⟨gb254, 1, none⟩ = some (.slice A0_1 l0_1.length c0_1) := (blk_cell BK254.out 1).trans rfl; have hcz19_2 : w17.cell? ⟨gb254, 2, none⟩ = some (.int .i64 a0_2) := (blk_cell BK254.out 2).trans rfl; have hcz19_3 : w17.cell? ⟨gb254, 3, none⟩ = some (.int .i64 a0_3) := (blk_cell BK254.out 3).trans rfl; have hcz19_4 : w17.cell? ⟨gb254, 4, none⟩ = some (.int .i64 a0_4) := (blk_cell BK254.out 4).trans rfl; have hfz19_0 := blk_frozen BK254.out 0; have hfz19_1 := blk_frozen BK254.out 1; have hfz19_2 := blk_frozen BK254.out 2; have hfz19_3 := blk_frozen BK254.out 3; have hfz19_4 := blk_frozen BK254.out 4; have hcz20_0 : w17.cell? ⟨gb255, 0, none⟩ = some (.int .i64 a1_0) := (blk_cell BK255.out 0).trans rfl; have hcz20_1 : w17.cell? ⟨gb255, 1, none⟩ = some (.slice A1_1 l1_1.length c1_1) := (blk_cell BK255.out 1).trans rfl; have hcz20_2 : w17.cell? ⟨gb255, 2, none⟩ = some (.int .i64 a1_2) := (blk_cell BK255.out 2).trans rfl; have hcz20_3 : w17.cell? ⟨gb255, 3, none⟩ = some (.int .i64 a1_3) := (blk_cell BK255.out 3).trans rfl; have hcz20_4 : w17.cell? ⟨gb255, 4, none⟩ = some (.int .i64 a1_4) := (blk_cell BK255.out 4).trans rfl; have hfz20_0 := blk_frozen BK255.out 0; have hfz20_1 := blk_frozen BK255.out 1; have hfz20_2 := blk_frozen BK255.out 2; have hfz20_3 := blk_frozen BK255.out 3; have hfz20_4 := blk_frozen BK255.out 4))
  go_ret
  exact ⟨RT, PB⟩

/-! ### impl_InRange: function 61 -/
def impl_InRange.f (a0 : Int) (a1 : Int) (a2 : Int) : Option (Bool) := if a1 ≤ a0 then (some (decide (a0 ≤ a2))) else (some false)
set_option maxHeartbeats 8000000 in
set_option maxRecDepth 100000 in
theorem impl_InRange.calls (a0 : Int) (a1 : Int) (a2 : Int) (r : Bool) (w : World) (h : impl_InRange.f a0 a1 a2 = some r) :
  Calls Try.prog 61 #[.int .i64 a0, .int .i64 a1, .int .i64 a2] w fun e w' => e = .returned (.bool r) ∧ Drawn0 w w' := by
 have H : (if a1 ≤ a0 then (some (decide (a0 ≤ a2))) else (some false)) = some r := h
 clear h
 by_cases c4 : a1 ≤ a0
 ·rw [if_pos c4] at H
  have c4b0 : decide (a1 ≤ a0) = true := decide_eq_true c4
  clear c4
  obtain rfl := Option.some.inj H
  go_enter Try.func61, Try.ntmps61
  go_wp2
  go_ret
  exact ⟨by first | rfl | (simp; done) | (simp [*]; done), by repeat (first | exact Drawn0.refl _ | apply Drawn0.step)⟩
 ·rw [if_neg c4] at H
  have c4b0 : decide (a1 ≤ a0) = false := decide_eq_false c4
  clear c4
  obtain rfl := Option.some.inj H
  go_enter Try.func61, Try.ntmps61
  go_wp2
  go_ret
  exact ⟨by first | rfl | (simp; done) | (simp [*]; done), by repeat (first | exact Drawn0.refl _ | apply Drawn0.step)⟩

end Go.Proofs.Ytdpkidjddlnafaa.MFnSites
