-- Written by a program of this session out of the translation's own print. Not trusted: Lean checks it.
import Derived.Test.YtdpkidjddlnafaaShr
import Derived.Test.YtdpkidjddlnafaaMFnSitesx0
import Derived.Test.YtdpkidjddlnafaaMFnSitesx3
import Derived.Test.YtdpkidjddlnafaaMFnSitesx1
import Derived.Test.YtdpkidjddlnafaaMFnSitesx2
namespace Go.Proofs.Ytdpkidjddlnafaa.MFnSites
open Go.RowKit Go.Proofs.YtdpkidjddlnafaaW.PrintWords Go.Proofs.YtdpkidjddlnafaaW.PrintLast Go.Proofs.YtdpkidjddlnafaaW.PrintMore
attribute [local go_sem] max2_int min2_int max_two min_two max_three min_three max_four min_four   -- for this text's walks alone
set_option linter.unusedVariables false
set_option linter.unusedSimpArgs false

abbrev b4_3 : Array Bool := #[true, true, true, true, true, true, true]
abbrev b4_4 : Array Bool := #[true, true, true, true, true, true, false]
abbrev b4_5 : Array Bool := #[true, true, true, true, true, false, false]
abbrev b4_6 : Array Bool := #[true, true, true, true, false, false, false]
abbrev b4_7 : Array Bool := #[true, true, false, true, false, false, false]
abbrev b4_8 : Array Bool := #[false, true, false, true, false, false, false]
abbrev b4_9 : Array Bool := #[false, true, false, false, false, false, false]
abbrev b4_10 : Array Bool := #[false, false, false, false, false, false, false]
/-! ### impl_IsSteady: function 15 -/
mutual
def impl_IsSteady.j0 : Nat → List (S98) → Int → Int → Bool → Int → Int → Int → Option (Bool)
  | 0, _, _, _, _, _, _, _ => none
  | k + 1, x0, x2, x3, x19, x258000, x258001, x258002 => if x19 = true then (some false) else ((impl_AnswerAt.f k x0 x258000 x258001 x258002 x2).bind fun bt260 => (impl_IsSteady.l0 k x0 x3 x2 x258000 x258001 x258002 bt260.1 bt260.2.1 bt260.2.2.1 bt260.2.2.2.1 bt260.2.2.2.2))
def impl_IsSteady.l0 : Nat → List (S98) → Int → Int → Int → Int → Int → Int → List Int → Int → Int → Int → Option (Bool)
  | 0, _, _, _, _, _, _, _, _, _, _, _ => none
  | k + 1, x0, x3, x10, x258000, x258001, x258002, x268000, x268001, x268002, x268003, x268004 => if x10 ≤ x3 then ((impl_AnswerAt.f k x0 x258000 x258001 x258002 x10).bind fun bt268 => ((impl_EqualResources.f k x268000 x268001 x268002 x268003 x268004 bt268.1 bt268.2.1 bt268.2.2.1 bt268.2.2.2.1 bt268.2.2.2.2).bind fun t275 => (if t275 = true then (impl_IsSteady.l0 k x0 x3 (wrap64 (x10 + 1)) x258000 x258001 x258002 x268000 x268001 x268002 x268003 x268004) else (some false)))) else (some true)
end
def impl_IsSteady.f (k : Nat) (l0 : List (S98)) (a1_0 : Int) (a1_1 : Int) (a1_2 : Int) (a2 : Int) (a3 : Int) : Option (Bool) := (impl_InRange.f a2 0 1000).bind fun t258 => (if t258 = true then ((impl_InRange.f a3 a2 1000).bind fun t259 => (impl_IsSteady.j0 k l0 a2 a3 (!t259) a1_0 a1_1 a1_2)) else (impl_IsSteady.j0 k l0 a2 a3 true a1_0 a1_1 a1_2))
set_option maxHeartbeats 8000000 in
set_option maxRecDepth 100000 in
theorem impl_IsSteady.calls (k : Nat) (A0 : Option Addr) (c0 : Nat) (l0 : List (S98)) (a1_0 : Int) (a1_1 : Int) (a1_2 : Int) (a2 : Int) (a3 : Int) (r : Bool) (w : World) (hr0 : Kd.C k98 w A0 l0.length l0) (hc0 : l0.length ≤ c0) (h : impl_IsSteady.f k l0 a1_0 a1_1 a1_2 a2 a3 = some r) :
  Calls Try.prog 15 #[.slice A0 l0.length c0, .agg #[.int .i64 a1_0, .int .i64 a1_1, .int .i64 a1_2], .int .i64 a2, .int .i64 a3] w fun e w' => e = .returned (.bool r) ∧ Below w.heap.size w w' := by
 have hu26 := Try.underlying26
 have hu31 := Try.underlying31
 have HR0 := Aside0.mk hr0
 have HC0 := Aside0.mk hc0
 clear hr0 hc0
 have HB := ak (Below.refl w.heap.size w)
 have H : ((impl_InRange.f a2 0 1000).bind fun t258 => (if t258 = true then ((impl_InRange.f a3 a2 1000).bind fun t259 => (impl_IsSteady.j0 k l0 a2 a3 (!t259) a1_0 a1_1 a1_2)) else (impl_IsSteady.j0 k l0 a2 a3 true a1_0 a1_1 a1_2))) = some r := h
 clear h
 have HC5 := Aside0.mk H
 clear H
 go_enter Try.func15, Try.ntmps15
 go_upto_region 1 with (first | ((with_reducible refine gate_dst (N := 5) rfl ?_); refine bx_ (N := 5) #[.int .i64 a1_0, .int .i64 a1_1, .int .i64 a1_2] 26 ?_; intro gb257 hg w6 hbox hb; have n0_ := ak (below_step PB hb); have n1_ := ak (hbox); have n2_ := ak ((gz hg PB : w.heap.size ≤ gb257)); have n3_ := ak ((gz hg PB : w.heap.size ≤ gb257)); clear HB; have HB := n0_; have BK257 := n1_; have GW257 := n2_; have GE257 := n3_; clear n0_ n1_ n2_ n3_; clear hb hbox hg))
 (try simp only [Act.put, List.setIfInBounds_toArray, List.set_cons_zero, List.set_cons_succ])
 go_cut [19] (fun v19 wc => ∃ (kq : Nat) (x19_4 : Bool), v19 = .bool x19_4 ∧ Aside0 (impl_IsSteady.j0 kq l0 a2 a3 x19_4 a1_0 a1_1 a1_2 = some r) ∧ Aside0 (kq ≤ k) ∧ Aside0 (wc.heap[gb257]? = some (.cells #[.int .i64 a1_0, .int .i64 a1_1, .int .i64 a1_2] 26 (0, 0))) ∧ Aside0 (Below w.heap.size w wc))
 case first =>
  have H := HC5.out
  clear HC5
  replace H := Option.bind_eq_some_iff.mp H
  obtain ⟨t258, A70, H⟩ := H
  replace H : (if t258 = true then ((impl_InRange.f a3 a2 1000).bind fun t259 => (impl_IsSteady.j0 k l0 a2 a3 (!t259) a1_0 a1_1 a1_2)) else (impl_IsSteady.j0 k l0 a2 a3 true a1_0 a1_1 a1_2)) = some r := H
  have A7 := Aside0.mk A70
  clear A70
  by_cases c8 : t258 = true
  ·subst c8
   have H1 : ((impl_InRange.f a3 a2 1000).bind fun t259 => (impl_IsSteady.j0 k l0 a2 a3 (!t259) a1_0 a1_1 a1_2)) = some r := by rw [if_pos rfl] at H; exact H
   clear H
   have H := H1
   clear H1
   replace H := Option.bind_eq_some_iff.mp H
   obtain ⟨t259, A90, H⟩ := H
   replace H : (impl_IsSteady.j0 k l0 a2 a3 (!t259) a1_0 a1_1 a1_2) = some r := H
   have A9 := Aside0.mk A90
   clear A90
   have H' := Aside0.mk H
   clear H
   go_wp2_with (first | ((with_reducible refine gate_callee (f := 61) rfl ?_); refine goesL_ (some 12) rfl rfl Try.func61 KR rfl #[.int .i64 a2, .int .i64 0, .int .i64 1000] rfl AR ?_; (with_reducible refine (impl_InRange.calls a2 0 1000 true _ A7.out).mono ?_); rintro e w' ⟨rfl, ⟨nd, rfl⟩⟩; refine ⟨_, rfl, ?_⟩) | (go_at_call 61; (with_reducible refine (impl_InRange.calls a3 a2 1000 t259 _ A9.out).mono ?_); rintro e w' ⟨rfl, ⟨nd, rfl⟩⟩))
   go_meet
   case rel => exact ⟨_, (!t259), (by first | rfl | (simp; done) | (simp [*]; done)), H', ⟨by first | omega | exact Nat.le_refl _⟩, ⟨PK BK257⟩, ⟨PB⟩⟩
  ·replace c8 := Bool.eq_false_iff.mpr c8
   subst c8
   have H1 : (impl_IsSteady.j0 k l0 a2 a3 true a1_0 a1_1 a1_2) = some r := by rw [if_neg (show ¬ (false = true) by decide)] at H; exact H
   clear H
   have H := H1
   clear H1
   have H' := Aside0.mk H
   clear H
   go_wp2_with (first | ((with_reducible refine gate_callee (f := 61) rfl ?_); refine goesL_ (some 12) rfl rfl Try.func61 KR rfl #[.int .i64 a2, .int .i64 0, .int .i64 1000] rfl AR ?_; (with_reducible refine (impl_InRange.calls a2 0 1000 false _ A7.out).mono ?_); rintro e w' ⟨rfl, ⟨nd, rfl⟩⟩; refine ⟨_, rfl, ?_⟩))
   go_meet
   case rel => exact ⟨_, (true), (by first | rfl | (simp; done) | (simp [*]; done)), H', ⟨by first | omega | exact Nat.le_refl _⟩, ⟨PK BK257⟩, ⟨PB⟩⟩
 case rest =>
  clear HC5
  (try clear c1); (try clear p2); (try clear c6); (try clear c8)
  obtain ⟨kq, x19_4, rfl, HA, HJ4, BK257, HB⟩ := hcut
  cases kq with
  | zero => exact absurd HA.out (by simp [impl_IsSteady.j0])
  | succ kj4 =>
   have H := HA.out
   clear HA
   simp only [impl_IsSteady.j0] at H
   by_cases c10 : x19_4 = true
   ·subst c10
    have H1 : (some false) = some r := by rw [if_pos rfl] at H; exact H
    clear H
    have H := H1
    clear H1
    obtain rfl := Option.some.inj H
    go_wp2
    go_ret
    exact ⟨RT, PB⟩
   ·replace c10 := Bool.eq_false_iff.mpr c10
    subst c10
    have H1 : ((impl_AnswerAt.f kj4 l0 a1_0 a1_1 a1_2 a2).bind fun bt260 => (impl_IsSteady.l0 kj4 l0 a3 a2 a1_0 a1_1 a1_2 bt260.1 bt260.2.1 bt260.2.2.1 bt260.2.2.2.1 bt260.2.2.2.2)) = some r := by rw [if_neg (show ¬ (false = true) by decide)] at H; exact H
    clear H
    have H := H1
    clear H1
    replace H := Option.bind_eq_some_iff.mp H
    obtain ⟨⟨t260, t261, t264, t265, t266⟩, A110, H⟩ := H
    replace H : (impl_IsSteady.l0 kj4 l0 a3 a2 a1_0 a1_1 a1_2 t260 t261 t264 t265 t266) = some r := H
    have A11 := Aside0.mk A110
    clear A110
    have H' := Aside0.mk H
    clear H
    have hcz12_0 : wc.cell? ⟨gb257, 0, none⟩ = some (.int .i64 a1_0) := (blk_cell BK257.out 0).trans rfl
    have hcz12_1 : wc.cell? ⟨gb257, 1, none⟩ = some (.int .i64 a1_1) := (blk_cell BK257.out 1).trans rfl
    have hcz12_2 : wc.cell? ⟨gb257, 2, none⟩ = some (.int .i64 a1_2) := (blk_cell BK257.out 2).trans rfl
    have hfz12_0 := blk_frozen BK257.out 0
    have hfz12_1 := blk_frozen BK257.out 1
    have hfz12_2 := blk_frozen BK257.out 2
    go_wp2_with (first | ((with_reducible refine gate_callee (f := 12) rfl ?_); refine goesL_ (some 23) rfl rfl Try.func12 KR rfl #[.slice A0 l0.length c0, .agg #[.int .i64 a1_0, .int .i64 a1_1, .int .i64 a1_2], .int .i64 a2] rfl AR ?_; (with_reducible refine (impl_AnswerAt.calls kj4 _ _ l0 a1_0 a1_1 a1_2 a2 t260 t261 t264 t265 t266 _ ?side1 ?side2 A11.out).mono ?_); (case side1 => repeat (first | exact (Kd.C_below HR0.out HB.out) | (with_reducible refine Kd.C_alloc ?_ _) | (with_reducible refine Kd.C_drewN ?_ _) | (with_reducible refine Kd.C_drew ?_))); (case side2 => exact HC0.out); rintro e w13 ⟨v262, rfl, ho0, hb⟩; refine ⟨_, rfl, ?_⟩; have n0_ := ak (Kd.R_lower ho0 (below_size PB)); have n1_ := ak (kb BK257 hb); have n2_ := ak (below_step PB hb); clear BK257 HB; have HO263 := n0_; have BK257 := n1_; have HB := n2_; clear n0_ n1_ n2_; (try clear hb); (try clear hb2); (try clear hk); (try clear hi); (try clear ho0)) | ((with_reducible refine gate_dst (N := 9) rfl ?_); refine bx_ (N := 9) #[.int .i64 0, .slice none 0 0, .int .i64 0, .int .i64 0, .int .i64 0] 31 ?_; intro gb267 hg w14 hbox hb; have n0_ := ak (Kd.R_below (PR HO263) hb); have n1_ := ak (kb BK257 hb); have n2_ := ak (below_step PB hb); have n3_ := ak (hbox); have n4_ := ak ((gz hg PB : w.heap.size ≤ gb267)); have n5_ := ak ((gz hg PB : w.heap.size ≤ gb267)); have n6_ := ak ((gl hg BK257 : gb257 ≠ gb267)); have n7_ := ak (((gl hg BK257).symm : gb267 ≠ gb257)); clear HO263 BK257 HB; have HO263 := n0_; have BK257 := n1_; have HB := n2_; have BK267 := n3_; have GW267 := n4_; have GE267 := n5_; have NB257_267 := n6_; have NB267_257 := n7_; clear n0_ n1_ n2_ n3_ n4_ n5_ n6_ n7_; clear hb hbox hg; have hnb15 := NB267_257.out; have hnc15 := NB257_267.out; have hcz16_0 : w14.cell? ⟨gb267, 0, none⟩ = some (.int .i64 0) := (blk_cell BK267.out 0).trans rfl; have hcz16_1 : w14.cell? ⟨gb267, 1, none⟩ = some (.slice none 0 0) := (blk_cell BK267.out 1).trans rfl; have hcz16_2 : w14.cell? ⟨gb267, 2, none⟩ = some (.int .i64 0) := (blk_cell BK267.out 2).trans rfl; have hcz16_3 : w14.cell? ⟨gb267, 3, none⟩ = some (.int .i64 0) := (blk_cell BK267.out 3).trans rfl; have hcz16_4 : w14.cell? ⟨gb267, 4, none⟩ = some (.int .i64 0) := (blk_cell BK267.out 4).trans rfl; have hfz16_0 := blk_frozen BK267.out 0; have hfz16_1 := blk_frozen BK267.out 1; have hfz16_2 := blk_frozen BK267.out 2; have hfz16_3 := blk_frozen BK267.out 3; have hfz16_4 := blk_frozen BK267.out 4; obtain ⟨Ao17, co17, eo17⟩ := Kd.R_slice HO263.out; subst eo17))
    go_loopg [10] kj4 (fun kq v10 w' => ∃ (x10_2 : Int), v10 = .int .i64 x10_2 ∧ Aside0 (impl_IsSteady.l0 kq l0 a3 x10_2 a1_0 a1_1 a1_2 t260 t261 t264 t265 t266 = some r) ∧ Aside0 (kq ≤ kj4) ∧ Aside0 (Kd.R (Kd.int .i64) 3 w' w.heap.size (fun _ => True) (.slice Ao17 t261.length co17) t261) ∧ Aside0 (w'.heap[gb257]? = some (.cells #[.int .i64 a1_0, .int .i64 a1_1, .int .i64 a1_2] 26 (0, 0))) ∧ Aside0 (w'.heap[gb267]? = some (.cells #[.int .i64 t260, (.slice Ao17 t261.length co17), .int .i64 t264, .int .i64 t265, .int .i64 t266] 31 (0, 0))) ∧ Aside0 (Below w.heap.size w w'))
    case atStart => exact ⟨(a2), (by first | rfl | (simp; done) | (simp [*]; done)), H', ⟨Nat.le_refl _⟩, ⟨by (with_reducible repeat (first | apply Kd.R_alloc | apply Kd.R_drewN | apply Kd.R_drew)); exact Kd.R_mono (Kd.R_far (p := ⟨gb267, 4, none⟩) (Kd.R_far (p := ⟨gb267, 3, none⟩) (Kd.R_far (p := ⟨gb267, 2, none⟩) (Kd.R_far (p := ⟨gb267, 1, none⟩) (Kd.R_far (p := ⟨gb267, 0, none⟩) (Kd.R_types HO263.out BK267.out (by decide)) FK (.int .i64 t260)) FK (.slice Ao17 t261.length co17)) FK (.int .i64 t264)) FK (.int .i64 t265)) FK (.int .i64 t266)) (fun _ hk => trivial)⟩, ⟨PF BK257⟩, ⟨by (with_reducible repeat (first | refine blk_drewN ?_ _ | refine blk_drew ?_ | refine blk_alloc ?_ _)); refine blk_put (cs := #[.int .i64 t260, .slice Ao17 t261.length co17, .int .i64 t264, .int .i64 t265, .int .i64 0]) ?_ 4 _ rfl; (with_reducible repeat (first | refine blk_drewN ?_ _ | refine blk_drew ?_ | refine blk_alloc ?_ _)); refine blk_put (cs := #[.int .i64 t260, .slice Ao17 t261.length co17, .int .i64 t264, .int .i64 0, .int .i64 0]) ?_ 3 _ rfl; (with_reducible repeat (first | refine blk_drewN ?_ _ | refine blk_drew ?_ | refine blk_alloc ?_ _)); refine blk_put (cs := #[.int .i64 t260, .slice Ao17 t261.length co17, .int .i64 0, .int .i64 0, .int .i64 0]) ?_ 2 _ rfl; (with_reducible repeat (first | refine blk_drewN ?_ _ | refine blk_drew ?_ | refine blk_alloc ?_ _)); refine blk_put (cs := #[.int .i64 t260, .slice none 0 0, .int .i64 0, .int .i64 0, .int .i64 0]) ?_ 1 _ rfl; (with_reducible repeat (first | refine blk_drewN ?_ _ | refine blk_drew ?_ | refine blk_alloc ?_ _)); refine blk_put (cs := #[.int .i64 0, .slice none 0 0, .int .i64 0, .int .i64 0, .int .i64 0]) ?_ 0 _ rfl; (with_reducible repeat (first | refine blk_drewN ?_ _ | refine blk_drew ?_ | refine blk_alloc ?_ _)); exact BK267.out⟩, ⟨PB⟩⟩
    case round =>
     clear H'
     (try clear c1); (try clear p2); (try clear c6); (try clear c8); (try clear c10); (try clear c12); (try clear c15); (try clear hcz12_0); (try clear hcz12_1); (try clear hcz12_2); (try clear hcz16_0); (try clear hcz16_1); (try clear hcz16_2); (try clear hcz16_3); (try clear hcz16_4); (try clear hfz12_0); (try clear hfz12_1); (try clear hfz12_2); (try clear hfz16_0); (try clear hfz16_1); (try clear hfz16_2); (try clear hfz16_3); (try clear hfz16_4); (try clear p2)
     obtain ⟨x10_2, rfl, HA, HK2, HO_268001, BK257, BK267, HB⟩ := hrel
     cases gk with
     | zero => exact absurd HA.out (by simp [impl_IsSteady.l0])
     | succ k2 =>
      have H := HA.out
      clear HA
      simp only [impl_IsSteady.l0] at H
      by_cases c18 : x10_2 ≤ a3
      ·rw [if_pos c18] at H
       have c18b0 : decide (x10_2 ≤ a3) = true := decide_eq_true c18
       clear c18
       replace H := Option.bind_eq_some_iff.mp H
       obtain ⟨⟨t268, t269, t272, t273, t274⟩, A190, H⟩ := H
       replace H : ((impl_EqualResources.f k2 t260 t261 t264 t265 t266 t268 t269 t272 t273 t274).bind fun t275 => (if t275 = true then (impl_IsSteady.l0 k2 l0 a3 (wrap64 (x10_2 + 1)) a1_0 a1_1 a1_2 t260 t261 t264 t265 t266) else (some false))) = some r := H
       have A19 := Aside0.mk A190
       clear A190
       replace H := Option.bind_eq_some_iff.mp H
       obtain ⟨t275, A200, H⟩ := H
       replace H : (if t275 = true then (impl_IsSteady.l0 k2 l0 a3 (wrap64 (x10_2 + 1)) a1_0 a1_1 a1_2 t260 t261 t264 t265 t266) else (some false)) = some r := H
       have A20 := Aside0.mk A200
       clear A200
       by_cases c21 : t275 = true
       ·subst c21
        have H1 : (impl_IsSteady.l0 k2 l0 a3 (wrap64 (x10_2 + 1)) a1_0 a1_1 a1_2 t260 t261 t264 t265 t266) = some r := by rw [if_pos rfl] at H; exact H
        clear H
        have H := H1
        clear H1
        have H' := Aside0.mk H
        clear H
        try go_wp2
        have n0_ := ak (Kd.R_drew HO_268001.out)
        have n1_ := ak (blk_drew BK257.out)
        have n2_ := ak (blk_drew BK267.out)
        have n3_ := ak (below_drew1 HB.out)
        clear HO_268001
        clear BK257
        clear BK267
        clear HB
        have HO_268001 := n0_
        have BK257 := n1_
        have BK267 := n2_
        have HB := n3_
        clear n0_ n1_ n2_ n3_
        refine start_ (n := 7) (S := fun w' => w'.cell? ⟨gb267, 0, none⟩ = some (.int .i64 t260) ∧ w'.cell? ⟨gb267, 1, none⟩ = some (.slice Ao17 t261.length co17) ∧ w'.cell? ⟨gb267, 2, none⟩ = some (.int .i64 t264) ∧ w'.cell? ⟨gb267, 3, none⟩ = some (.int .i64 t265) ∧ w'.cell? ⟨gb267, 4, none⟩ = some (.int .i64 t266) ∧ w'.cell? ⟨gb257, 0, none⟩ = some (.int .i64 a1_0) ∧ w'.cell? ⟨gb257, 1, none⟩ = some (.int .i64 a1_1) ∧ w'.cell? ⟨gb257, 2, none⟩ = some (.int .i64 a1_2)) (ds := []) b4_10 KR rfl rfl ⟨(blk_cell BK267.out 0).trans rfl, (blk_cell BK267.out 1).trans rfl, (blk_cell BK267.out 2).trans rfl, (blk_cell BK267.out 3).trans rfl, (blk_cell BK267.out 4).trans rfl, (blk_cell BK257.out 0).trans rfl, (blk_cell BK257.out 1).trans rfl, (blk_cell BK257.out 2).trans rfl⟩ (fun hHeld => ?_)
        generalize wr.drew = w22 at HO_268001 BK257 BK267 HB hHeld ⊢
        refine pure_ (i := 1) (N := some 31) (v := ?_) (a' := ?_) b4_9 rfl rfl KR (fun _ _ _ h => h) (Or.inl ⟨by rfl, ?_⟩) ?_ ?_
        rotate_left
        ·intro w'
         go_simp
         with_reducible rfl
        rotate_left
        ·simp only [Act.put, List.setIfInBounds_toArray, List.set_cons_zero, List.set_cons_succ, i64_w, i32_w]
         rfl
        refine pure_ (i := 3) (N := some 33) (v := ?_) (a' := ?_) b4_8 rfl rfl KR (fun _ _ _ h => h) (Or.inl ⟨by rfl, ?_⟩) ?_ ?_
        rotate_left
        ·intro w'
         go_simp
         with_reducible rfl
        rotate_left
        ·simp only [Act.put, List.setIfInBounds_toArray, List.set_cons_zero, List.set_cons_succ, i64_w, i32_w]
         rfl
        refine take_ (i := 0) (N := some 30) (v := ?_) (a' := ?_) b4_7 rfl rfl KR (fun _ _ _ h => h) (Or.inl ⟨by rfl, ?_⟩) hHeld ?_ ?_
        rotate_left
        ·rintro w' ⟨s0, s1, s2, s3, s4, s5, s6, s7⟩
         go_simp
         with_reducible rfl
        rotate_left
        ·simp only [Act.put, List.setIfInBounds_toArray, List.set_cons_zero, List.set_cons_succ, i64_w, i32_w]
         rfl
        refine take_ (i := 2) (N := some 32) (v := ?_) (a' := ?_) b4_6 rfl rfl KR (fun _ _ _ h => h) (Or.inl ⟨by rfl, ?_⟩) hHeld ?_ ?_
        rotate_left
        ·rintro w' ⟨s0, s1, s2, s3, s4, s5, s6, s7⟩
         go_simp
         with_reducible rfl
        rotate_left
        ·simp only [Act.put, List.setIfInBounds_toArray, List.set_cons_zero, List.set_cons_succ, i64_w, i32_w]
         rfl
        refine one_ (i := 4) (N := some 34) b4_5 rfl rfl KR (by decide) (fun K hK => ?_)
        refine goes_ Try.func12 KR rfl #[.slice A0 l0.length c0, .agg #[.int .i64 a1_0, .int .i64 a1_1, .int .i64 a1_2], .int .i64 x10_2] (by rfl) rfl rfl AR ?_
        with_reducible refine (impl_AnswerAt.calls k2 _ _ l0 a1_0 a1_1 a1_2 x10_2 t268 t269 t272 t273 t274 _ ?side1 ?side2 A19.out).mono ?_
        (case side1 => repeat (first | exact (Kd.C_below HR0.out HB.out) | (with_reducible refine Kd.C_alloc ?_ _) | (with_reducible refine Kd.C_drewN ?_ _) | (with_reducible refine Kd.C_drew ?_)))
        (case side2 => exact HC0.out)
        rintro e w23 ⟨v270, rfl, ho0, hb⟩
        refine ⟨_, rfl, ?_⟩
        have n0_ := ak (Kd.R_elder' (PR HO_268001) (Kd.R_base ho0) hb)
        have n1_ := ak (Kd.R_lower (Kd.R_new' ho0 (Kd.R_lt (PR HO_268001))) (below_size PB))
        have n2_ := ak (kb BK257 hb)
        have n3_ := ak (kb BK267 hb)
        have n4_ := ak (below_step PB hb)
        clear HO_268001
        clear BK257
        clear BK267
        clear HB
        have HO_268001 := n0_
        have HO271 := n1_
        have BK257 := n2_
        have BK267 := n3_
        have HB := n4_
        clear n0_ n1_ n2_ n3_ n4_
        (try clear hb)
        (try clear hb2)
        (try clear hk)
        (try clear hi)
        (try clear ho0)
        obtain ⟨Ao24, co24, eo24⟩ := Kd.R_slice HO271.out
        (first | subst eo24 | (injection eo24 with f1_ f2_ f3_; have f4_ := f1_.symm; have f5_ := f3_.symm; clear f1_ f2_ f3_; subst f4_; subst f5_))
        refine hK.out _ _ ⟨(blk_cell BK267.out 0).trans rfl, (blk_cell BK267.out 1).trans rfl, (blk_cell BK267.out 2).trans rfl, (blk_cell BK267.out 3).trans rfl, (blk_cell BK267.out 4).trans rfl, (blk_cell BK257.out 0).trans rfl, (blk_cell BK257.out 1).trans rfl, (blk_cell BK257.out 2).trans rfl⟩ (fun hHeld => ?_)
        clear hK K
        refine norm_ (a' := ?_) ?_ ?_
        rotate_left
        ·show Act.put _ (some 34) _ = _
         simp only [Act.put, List.setIfInBounds_toArray, List.set_cons_zero, List.set_cons_succ, i64_w, i32_w]
         rfl
        refine one_ (i := 5) (N := some 35) b4_4 rfl rfl KR (by decide) (fun K hK => ?_)
        refine goes_ Try.func14 KR rfl #[.agg #[.int .i64 t260, .slice Ao17 t261.length co17, .int .i64 t264, .int .i64 t265, .int .i64 t266], .agg #[.int .i64 t268, .slice Ao24 t269.length co24, .int .i64 t272, .int .i64 t273, .int .i64 t274]] (by rfl) rfl rfl AR ?_
        with_reducible refine (impl_EqualResources.calls k2 t260 _ _ t261 t264 t265 t266 t268 _ _ t269 t272 t273 t274 true _ ?side1 ?side2 ?side3 ?side4 A20.out).mono ?_
        (case side1 => exact CR ((Kd.R_reads' HO_268001.out).2.2))
        (case side2 => exact (Kd.R_reads' HO_268001.out).2.1)
        (case side3 => exact CR ((Kd.R_reads' HO271.out).2.2))
        (case side4 => exact (Kd.R_reads' HO271.out).2.1)
        rintro e w25 ⟨rfl, hb⟩
        refine ⟨_, rfl, ?_⟩
        have n0_ := ak (Kd.R_below (PR HO_268001) hb)
        have n1_ := ak (Kd.R_below (PR HO271) hb)
        have n2_ := ak (kb BK257 hb)
        have n3_ := ak (kb BK267 hb)
        have n4_ := ak (below_step PB hb)
        clear HO_268001
        clear HO271
        clear BK257
        clear BK267
        clear HB
        have HO_268001 := n0_
        have HO271 := n1_
        have BK257 := n2_
        have BK267 := n3_
        have HB := n4_
        clear n0_ n1_ n2_ n3_ n4_
        (try clear hb)
        (try clear hb2)
        (try clear hk)
        (try clear hi)
        refine hK.out _ _ ⟨(blk_cell BK267.out 0).trans rfl, (blk_cell BK267.out 1).trans rfl, (blk_cell BK267.out 2).trans rfl, (blk_cell BK267.out 3).trans rfl, (blk_cell BK267.out 4).trans rfl, (blk_cell BK257.out 0).trans rfl, (blk_cell BK257.out 1).trans rfl, (blk_cell BK257.out 2).trans rfl⟩ (fun hHeld => ?_)
        clear hK K
        refine norm_ (a' := ?_) ?_ ?_
        rotate_left
        ·show Act.put _ (some 35) _ = _
         simp only [Act.put, List.setIfInBounds_toArray, List.set_cons_zero, List.set_cons_succ, i64_w, i32_w]
         rfl
        refine pure_ (i := 6) (N := some 36) (v := ?_) (a' := ?_) b4_3 rfl rfl KR (fun _ _ _ h => h) (Or.inl ⟨by rfl, ?_⟩) ?_ ?_
        rotate_left
        ·intro w'
         go_simp
         with_reducible rfl
        rotate_left
        ·simp only [Act.put, List.setIfInBounds_toArray, List.set_cons_zero, List.set_cons_succ, i64_w, i32_w]
         rfl
        refine done_ KR ?_
        try go_wp2
        go_roundg k2
        case measure => have := HJ4.out; have := HK2.out; omega
        case rel => exact ⟨(wrap64 (x10_2 + 1)), (by first | rfl | (simp; done) | (simp [*]; done)), H', ⟨by have := HJ4.out; have := HK2.out; omega⟩, ⟨by (with_reducible repeat (first | apply Kd.R_alloc | apply Kd.R_drewN | apply Kd.R_drew)); exact Kd.R_mono HO_268001.out (fun _ hk => trivial)⟩, ⟨PK BK257⟩, ⟨PK BK267⟩, ⟨PB⟩⟩
       ·replace c21 := Bool.eq_false_iff.mpr c21
        subst c21
        have H1 : (some false) = some r := by rw [if_neg (show ¬ (false = true) by decide)] at H; exact H
        clear H
        have H := H1
        clear H1
        obtain rfl := Option.some.inj H
        try go_wp2
        have n0_ := ak (Kd.R_drew HO_268001.out)
        have n1_ := ak (blk_drew BK257.out)
        have n2_ := ak (blk_drew BK267.out)
        have n3_ := ak (below_drew1 HB.out)
        clear HO_268001
        clear BK257
        clear BK267
        clear HB
        have HO_268001 := n0_
        have BK257 := n1_
        have BK267 := n2_
        have HB := n3_
        clear n0_ n1_ n2_ n3_
        refine start_ (n := 7) (S := fun w' => w'.cell? ⟨gb267, 0, none⟩ = some (.int .i64 t260) ∧ w'.cell? ⟨gb267, 1, none⟩ = some (.slice Ao17 t261.length co17) ∧ w'.cell? ⟨gb267, 2, none⟩ = some (.int .i64 t264) ∧ w'.cell? ⟨gb267, 3, none⟩ = some (.int .i64 t265) ∧ w'.cell? ⟨gb267, 4, none⟩ = some (.int .i64 t266) ∧ w'.cell? ⟨gb257, 0, none⟩ = some (.int .i64 a1_0) ∧ w'.cell? ⟨gb257, 1, none⟩ = some (.int .i64 a1_1) ∧ w'.cell? ⟨gb257, 2, none⟩ = some (.int .i64 a1_2)) (ds := []) b4_10 KR rfl rfl ⟨(blk_cell BK267.out 0).trans rfl, (blk_cell BK267.out 1).trans rfl, (blk_cell BK267.out 2).trans rfl, (blk_cell BK267.out 3).trans rfl, (blk_cell BK267.out 4).trans rfl, (blk_cell BK257.out 0).trans rfl, (blk_cell BK257.out 1).trans rfl, (blk_cell BK257.out 2).trans rfl⟩ (fun hHeld => ?_)
        generalize wr.drew = w26 at HO_268001 BK257 BK267 HB hHeld ⊢
        refine pure_ (i := 1) (N := some 31) (v := ?_) (a' := ?_) b4_9 rfl rfl KR (fun _ _ _ h => h) (Or.inl ⟨by rfl, ?_⟩) ?_ ?_
        rotate_left
        ·intro w'
         go_simp
         with_reducible rfl
        rotate_left
        ·simp only [Act.put, List.setIfInBounds_toArray, List.set_cons_zero, List.set_cons_succ, i64_w, i32_w]
         rfl
        refine pure_ (i := 3) (N := some 33) (v := ?_) (a' := ?_) b4_8 rfl rfl KR (fun _ _ _ h => h) (Or.inl ⟨by rfl, ?_⟩) ?_ ?_
        rotate_left
        ·intro w'
         go_simp
         with_reducible rfl
        rotate_left
        ·simp only [Act.put, List.setIfInBounds_toArray, List.set_cons_zero, List.set_cons_succ, i64_w, i32_w]
         rfl
        refine take_ (i := 0) (N := some 30) (v := ?_) (a' := ?_) b4_7 rfl rfl KR (fun _ _ _ h => h) (Or.inl ⟨by rfl, ?_⟩) hHeld ?_ ?_
        rotate_left
        ·rintro w' ⟨s0, s1, s2, s3, s4, s5, s6, s7⟩
         go_simp
         with_reducible rfl
        rotate_left
        ·simp only [Act.put, List.setIfInBounds_toArray, List.set_cons_zero, List.set_cons_succ, i64_w, i32_w]
         rfl
        refine take_ (i := 2) (N := some 32) (v := ?_) (a' := ?_) b4_6 rfl rfl KR (fun _ _ _ h => h) (Or.inl ⟨by rfl, ?_⟩) hHeld ?_ ?_
        rotate_left
        ·rintro w' ⟨s0, s1, s2, s3, s4, s5, s6, s7⟩
         go_simp
         with_reducible rfl
        rotate_left
        ·simp only [Act.put, List.setIfInBounds_toArray, List.set_cons_zero, List.set_cons_succ, i64_w, i32_w]
         rfl
        refine one_ (i := 4) (N := some 34) b4_5 rfl rfl KR (by decide) (fun K hK => ?_)
        refine goes_ Try.func12 KR rfl #[.slice A0 l0.length c0, .agg #[.int .i64 a1_0, .int .i64 a1_1, .int .i64 a1_2], .int .i64 x10_2] (by rfl) rfl rfl AR ?_
        with_reducible refine (impl_AnswerAt.calls k2 _ _ l0 a1_0 a1_1 a1_2 x10_2 t268 t269 t272 t273 t274 _ ?side1 ?side2 A19.out).mono ?_
        (case side1 => repeat (first | exact (Kd.C_below HR0.out HB.out) | (with_reducible refine Kd.C_alloc ?_ _) | (with_reducible refine Kd.C_drewN ?_ _) | (with_reducible refine Kd.C_drew ?_)))
        (case side2 => exact HC0.out)
        rintro e w27 ⟨v270, rfl, ho0, hb⟩
        refine ⟨_, rfl, ?_⟩
        have n0_ := ak (Kd.R_elder' (PR HO_268001) (Kd.R_base ho0) hb)
        have n1_ := ak (Kd.R_lower (Kd.R_new' ho0 (Kd.R_lt (PR HO_268001))) (below_size PB))
        have n2_ := ak (kb BK257 hb)
        have n3_ := ak (kb BK267 hb)
        have n4_ := ak (below_step PB hb)
        clear HO_268001
        clear BK257
        clear BK267
        clear HB
        have HO_268001 := n0_
        have HO271 := n1_
        have BK257 := n2_
        have BK267 := n3_
        have HB := n4_
        clear n0_ n1_ n2_ n3_ n4_
        (try clear hb)
        (try clear hb2)
        (try clear hk)
        (try clear hi)
        (try clear ho0)
        obtain ⟨Ao28, co28, eo28⟩ := Kd.R_slice HO271.out
        (first | subst eo28 | (injection eo28 with f1_ f2_ f3_; have f4_ := f1_.symm; have f5_ := f3_.symm; clear f1_ f2_ f3_; subst f4_; subst f5_))
        refine hK.out _ _ ⟨(blk_cell BK267.out 0).trans rfl, (blk_cell BK267.out 1).trans rfl, (blk_cell BK267.out 2).trans rfl, (blk_cell BK267.out 3).trans rfl, (blk_cell BK267.out 4).trans rfl, (blk_cell BK257.out 0).trans rfl, (blk_cell BK257.out 1).trans rfl, (blk_cell BK257.out 2).trans rfl⟩ (fun hHeld => ?_)
        clear hK K
        refine norm_ (a' := ?_) ?_ ?_
        rotate_left
        ·show Act.put _ (some 34) _ = _
         simp only [Act.put, List.setIfInBounds_toArray, List.set_cons_zero, List.set_cons_succ, i64_w, i32_w]
         rfl
        refine one_ (i := 5) (N := some 35) b4_4 rfl rfl KR (by decide) (fun K hK => ?_)
        refine goes_ Try.func14 KR rfl #[.agg #[.int .i64 t260, .slice Ao17 t261.length co17, .int .i64 t264, .int .i64 t265, .int .i64 t266], .agg #[.int .i64 t268, .slice Ao28 t269.length co28, .int .i64 t272, .int .i64 t273, .int .i64 t274]] (by rfl) rfl rfl AR ?_
        with_reducible refine (impl_EqualResources.calls k2 t260 _ _ t261 t264 t265 t266 t268 _ _ t269 t272 t273 t274 false _ ?side1 ?side2 ?side3 ?side4 A20.out).mono ?_
        (case side1 => exact CR ((Kd.R_reads' HO_268001.out).2.2))
        (case side2 => exact (Kd.R_reads' HO_268001.out).2.1)
        (case side3 => exact CR ((Kd.R_reads' HO271.out).2.2))
        (case side4 => exact (Kd.R_reads' HO271.out).2.1)
        rintro e w29 ⟨rfl, hb⟩
        refine ⟨_, rfl, ?_⟩
        have n0_ := ak (Kd.R_below (PR HO_268001) hb)
        have n1_ := ak (Kd.R_below (PR HO271) hb)
        have n2_ := ak (kb BK257 hb)
        have n3_ := ak (kb BK267 hb)
        have n4_ := ak (below_step PB hb)
        clear HO_268001
        clear HO271
        clear BK257
        clear BK267
        clear HB
        have HO_268001 := n0_
        have HO271 := n1_
        have BK257 := n2_
        have BK267 := n3_
        have HB := n4_
        clear n0_ n1_ n2_ n3_ n4_
        (try clear hb)
        (try clear hb2)
        (try clear hk)
        (try clear hi)
        refine hK.out _ _ ⟨(blk_cell BK267.out 0).trans rfl, (blk_cell BK267.out 1).trans rfl, (blk_cell BK267.out 2).trans rfl, (blk_cell BK267.out 3).trans rfl, (blk_cell BK267.out 4).trans rfl, (blk_cell BK257.out 0).trans rfl, (blk_cell BK257.out 1).trans rfl, (blk_cell BK257.out 2).trans rfl⟩ (fun hHeld => ?_)
        clear hK K
        refine norm_ (a' := ?_) ?_ ?_
        rotate_left
        ·show Act.put _ (some 35) _ = _
         simp only [Act.put, List.setIfInBounds_toArray, List.set_cons_zero, List.set_cons_succ, i64_w, i32_w]
         rfl
        refine pure_ (i := 6) (N := some 36) (v := ?_) (a' := ?_) b4_3 rfl rfl KR (fun _ _ _ h => h) (Or.inl ⟨by rfl, ?_⟩) ?_ ?_
        rotate_left
        ·intro w'
         go_simp
         with_reducible rfl
        rotate_left
        ·simp only [Act.put, List.setIfInBounds_toArray, List.set_cons_zero, List.set_cons_succ, i64_w, i32_w]
         rfl
        refine done_ KR ?_
        try go_wp2
        go_ret
        exact ⟨RT, PB⟩
      ·rw [if_neg c18] at H
       have c18b0 : decide (x10_2 ≤ a3) = false := decide_eq_false c18
       clear c18
       obtain rfl := Option.some.inj H
       go_wp2
       go_ret
       exact ⟨RT, PB⟩

/-! ### spec_DrawFollowAt: function 16 -/
def spec_DrawFollowAt.l0 : Nat → List (S98) → Int → Int → Int → Int → Int → List Int → Int → Int → Option ((List (S98)) × Int × Int × Int × Int)
  | 0, _, _, _, _, _, _, _, _, _ => none
  | k + 1, x5, x7, x9, x285000, x285001, x285002, x289000, x289001, x289002 => if x9 > 0 then ((spec_l4Draw.f x289000 x289001 x289002).bind fun bt292 => ((spec_l4Draw.f x289000 bt292.2.2.2.1 bt292.2.2.2.2).bind fun bt297 => (if x5.length < 1599289640401 then (spec_DrawFollowAt.l0 k (x5 ++ [(⟨(⟨bt292.1, bt292.2.1, bt292.2.2.1⟩ : S26), 0, (⟨3, ([] : List Int), (⟨bt297.1, bt297.2.1, bt297.2.2.1⟩ : S26)⟩ : S31)⟩ : S98)]) x7 (wrap64 (x9 - 1)) x285000 x285001 x285002 x289000 bt297.2.2.2.1 bt297.2.2.2.2) else (none)))) else (some (x5, x285000, x285001, x285002, x7))
def spec_DrawFollowAt.f (k : Nat) (l0 : List Int) : Option ((List (S98)) × Int × Int × Int × Int) := (spec_DrawAnswerAt.f k l0).bind fun bt277 => ((spec_l1New.f k l0).bind fun bt285 => ((spec_l1Below.f bt285.1 bt285.2.1 bt285.2.2 4).bind fun bt289 => (spec_DrawFollowAt.l0 k bt277.1 bt277.2.2.2.2 bt289.1 bt277.2.1 bt277.2.2.1 bt277.2.2.2.1 bt285.1 bt289.2.1 bt289.2.2)))
set_option maxHeartbeats 8000000 in
set_option maxRecDepth 100000 in
theorem spec_DrawFollowAt.calls (k : Nat) (A0 : Option Addr) (c0 : Nat) (l0 : List Int) (r1 : List (S98)) (r2 : Int) (r3 : Int) (r4 : Int) (r5 : Int) (w : World) (hr0 : Kd.C (Kd.int .u8) w A0 l0.length l0) (hc0 : l0.length ≤ c0) (h : spec_DrawFollowAt.f k l0 = some (r1, r2, r3, r4, r5)) :
  Calls Try.prog 16 #[.slice A0 l0.length c0] w fun e w' => ∃ v0_ : Value, e = .returned (.tuple #[v0_, .agg #[.int .i64 r2, .int .i64 r3, .int .i64 r4], .int .i64 r5]) ∧ Kd.S k98 98 w' w.heap.size (fun _ => True) v0_ r1 ∧ Below w.heap.size w w' := by
 have hu26 := Try.underlying26
 have hu31 := Try.underlying31
 have hu98 := Try.underlying98
 have HR0 := Aside0.mk hr0
 have HC0 := Aside0.mk hc0
 clear hr0 hc0
 have HB := ak (Below.refl w.heap.size w)
 have H : ((spec_DrawAnswerAt.f k l0).bind fun bt277 => ((spec_l1New.f k l0).bind fun bt285 => ((spec_l1Below.f bt285.1 bt285.2.1 bt285.2.2 4).bind fun bt289 => (spec_DrawFollowAt.l0 k bt277.1 bt277.2.2.2.2 bt289.1 bt277.2.1 bt277.2.2.1 bt277.2.2.2.1 bt285.1 bt289.2.1 bt289.2.2)))) = some (r1, r2, r3, r4, r5) := h
 clear h
 replace H := Option.bind_eq_some_iff.mp H
 obtain ⟨⟨t277, t280, t281, t282, t283⟩, A20, H⟩ := H
 replace H : ((spec_l1New.f k l0).bind fun bt285 => ((spec_l1Below.f bt285.1 bt285.2.1 bt285.2.2 4).bind fun bt289 => (spec_DrawFollowAt.l0 k t277 t283 bt289.1 t280 t281 t282 bt285.1 bt289.2.1 bt289.2.2))) = some (r1, r2, r3, r4, r5) := H
 have A2 := Aside0.mk A20
 clear A20
 replace H := Option.bind_eq_some_iff.mp H
 obtain ⟨⟨t285, t286, t287⟩, A30, H⟩ := H
 replace H : ((spec_l1Below.f t285 t286 t287 4).bind fun bt289 => (spec_DrawFollowAt.l0 k t277 t283 bt289.1 t280 t281 t282 t285 bt289.2.1 bt289.2.2)) = some (r1, r2, r3, r4, r5) := H
 have A3 := Aside0.mk A30
 clear A30
 replace H := Option.bind_eq_some_iff.mp H
 obtain ⟨⟨t289, t290, t291⟩, A40, H⟩ := H
 replace H : (spec_DrawFollowAt.l0 k t277 t283 t289 t280 t281 t282 t285 t290 t291) = some (r1, r2, r3, r4, r5) := H
 have A4 := Aside0.mk A40
 clear A40
 have H' := Aside0.mk H
 clear H
 go_enter Try.func16, Try.ntmps16
 go_wp2_with (first | ((with_reducible refine gate_dst (N := 3) rfl ?_); refine bx_ (N := 3) #[.int .i64 0, .int .i64 0, .int .i64 0] 26 ?_; intro gb276 hg w5 hbox hb; have n0_ := ak (below_step PB hb); have n1_ := ak (hbox); have n2_ := ak ((gz hg PB : w.heap.size ≤ gb276)); have n3_ := ak ((gz hg PB : w.heap.size ≤ gb276)); clear HB; have HB := n0_; have BK276 := n1_; have GW276 := n2_; have GE276 := n3_; clear n0_ n1_ n2_ n3_; clear hb hbox hg) | ((with_reducible refine gate_callee (f := 11) rfl ?_); refine goesL_ (some 12) rfl rfl Try.func11 KR rfl #[.slice A0 l0.length c0] rfl AR ?_; (with_reducible refine (spec_DrawAnswerAt.calls k _ _ l0 t277 t280 t281 t282 t283 _ ?side1 ?side2 A2.out).mono ?_); (case side1 => repeat (first | exact (Kd.C_below HR0.out HB.out) | (with_reducible refine Kd.C_alloc ?_ _) | (with_reducible refine Kd.C_drewN ?_ _) | (with_reducible refine Kd.C_drew ?_))); (case side2 => exact HC0.out); rintro e w6 ⟨v278, rfl, ho0, hb⟩; refine ⟨_, rfl, ?_⟩; have n0_ := ak (Kd.S_lower ho0 (below_size PB)); have n1_ := ak (kb BK276 hb); have n2_ := ak (below_step PB hb); clear BK276 HB; have HO279 := n0_; have BK276 := n1_; have HB := n2_; clear n0_ n1_ n2_; (try clear hb); (try clear hb2); (try clear hk); (try clear hi); (try clear ho0)) | ((with_reducible refine gate_dst (N := 6) rfl ?_); refine bx_ (N := 6) #[.int .i64 0, .int .i64 0, .int .i64 0] 26 ?_; intro gb284 hg w7 hbox hb; have n0_ := ak (Kd.S_below (PS HO279) hb); have n1_ := ak (kb BK276 hb); have n2_ := ak (below_step PB hb); have n3_ := ak (hbox); have n4_ := ak ((gz hg PB : w.heap.size ≤ gb284)); have n5_ := ak ((gz hg PB : w.heap.size ≤ gb284)); have n6_ := ak ((gl hg BK276 : gb276 ≠ gb284)); have n7_ := ak (((gl hg BK276).symm : gb284 ≠ gb276)); clear HO279 BK276 HB; have HO279 := n0_; have BK276 := n1_; have HB := n2_; have BK284 := n3_; have GW284 := n4_; have GE284 := n5_; have NB276_284 := n6_; have NB284_276 := n7_; clear n0_ n1_ n2_ n3_ n4_ n5_ n6_ n7_; clear hb hbox hg; have hnb8 := NB284_276.out; have hnc8 := NB276_284.out; have hcz9_0 : w7.cell? ⟨gb284, 0, none⟩ = some (.int .i64 0) := (blk_cell BK284.out 0).trans rfl; have hcz9_1 : w7.cell? ⟨gb284, 1, none⟩ = some (.int .i64 0) := (blk_cell BK284.out 1).trans rfl; have hcz9_2 : w7.cell? ⟨gb284, 2, none⟩ = some (.int .i64 0) := (blk_cell BK284.out 2).trans rfl; have hfz9_0 := blk_frozen BK284.out 0; have hfz9_1 := blk_frozen BK284.out 1; have hfz9_2 := blk_frozen BK284.out 2) | ((with_reducible refine gate_callee (f := 54) rfl ?_); refine goesL_ (some 17) rfl rfl Try.func54 KR rfl #[.slice A0 l0.length c0] rfl AR ?_; (with_reducible refine (spec_l1New.calls k _ _ l0 t285 t286 t287 w _ ?side1 ?side2 ?side3 A3.out).mono ?_); (case side1 => repeat (first | (with_reducible first | exact HB.out | apply below_alloc | apply pw_below_drewN | apply below_drew1 | refine below_set ?_ GE276.out | refine below_set ?_ GE284.out) | exact HB.out)); (case side2 => exact HR0.out); (case side3 => exact HC0.out); rintro e w10 ⟨g288, rfl, hi, hb, hb2⟩; refine ⟨_, rfl, ?_⟩; have n0_ := ak (Kd.S_below (by (with_reducible repeat (first | apply Kd.S_alloc | apply Kd.S_drewN | apply Kd.S_drew)); exact (Kd.S_mono (Kd.S_far (p := ⟨gb284, 2, none⟩) (Kd.S_far (p := ⟨gb284, 1, none⟩) (Kd.S_far (p := ⟨gb284, 0, none⟩) (Kd.S_types HO279.out BK284.out (by decide)) FK (.int .i64 t280)) FK (.int .i64 t281)) FK (.int .i64 t282)) (fun _ h_ => h_.1))) hb2); have n1_ := ak (blk_below (g := gb276) (o := .cells #[.int .i64 0, .int .i64 0, .int .i64 0] 26 (0, 0)) (PF BK276) hb2); have n2_ := ak (blk_below (g := gb284) (o := .cells #[.int .i64 t280, .int .i64 t281, .int .i64 t282] 26 (0, 0)) (by (with_reducible repeat (first | refine blk_drewN ?_ _ | refine blk_drew ?_ | refine blk_alloc ?_ _)); refine blk_put (cs := #[.int .i64 t280, .int .i64 t281, .int .i64 0]) ?_ 2 _ rfl; (with_reducible repeat (first | refine blk_drewN ?_ _ | refine blk_drew ?_ | refine blk_alloc ?_ _)); refine blk_put (cs := #[.int .i64 t280, .int .i64 0, .int .i64 0]) ?_ 1 _ rfl; (with_reducible repeat (first | refine blk_drewN ?_ _ | refine blk_drew ?_ | refine blk_alloc ?_ _)); refine blk_put (cs := #[.int .i64 0, .int .i64 0, .int .i64 0]) ?_ 0 _ rfl; (with_reducible repeat (first | refine blk_drewN ?_ _ | refine blk_drew ?_ | refine blk_alloc ?_ _)); exact BK284.out) hb2); have n3_ := ak (hb); have n4_ := ak (hi); have n5_ := ak (IsS144.ne_blk hi (blk_below (g := gb276) (o := .cells #[.int .i64 0, .int .i64 0, .int .i64 0] 26 (0, 0)) (PF BK276) hb2) (by decide)); have n6_ := ak (Ne.symm (IsS144.ne_blk hi (blk_below (g := gb276) (o := .cells #[.int .i64 0, .int .i64 0, .int .i64 0] 26 (0, 0)) (PF BK276) hb2) (by decide))); have n7_ := ak (IsS144.ne_blk hi (blk_below (g := gb284) (o := .cells #[.int .i64 t280, .int .i64 t281, .int .i64 t282] 26 (0, 0)) (by (with_reducible repeat (first | refine blk_drewN ?_ _ | refine blk_drew ?_ | refine blk_alloc ?_ _)); refine blk_put (cs := #[.int .i64 t280, .int .i64 t281, .int .i64 0]) ?_ 2 _ rfl; (with_reducible repeat (first | refine blk_drewN ?_ _ | refine blk_drew ?_ | refine blk_alloc ?_ _)); refine blk_put (cs := #[.int .i64 t280, .int .i64 0, .int .i64 0]) ?_ 1 _ rfl; (with_reducible repeat (first | refine blk_drewN ?_ _ | refine blk_drew ?_ | refine blk_alloc ?_ _)); refine blk_put (cs := #[.int .i64 0, .int .i64 0, .int .i64 0]) ?_ 0 _ rfl; (with_reducible repeat (first | refine blk_drewN ?_ _ | refine blk_drew ?_ | refine blk_alloc ?_ _)); exact BK284.out) hb2) (by decide)); have n8_ := ak (Ne.symm (IsS144.ne_blk hi (blk_below (g := gb284) (o := .cells #[.int .i64 t280, .int .i64 t281, .int .i64 t282] 26 (0, 0)) (by (with_reducible repeat (first | refine blk_drewN ?_ _ | refine blk_drew ?_ | refine blk_alloc ?_ _)); refine blk_put (cs := #[.int .i64 t280, .int .i64 t281, .int .i64 0]) ?_ 2 _ rfl; (with_reducible repeat (first | refine blk_drewN ?_ _ | refine blk_drew ?_ | refine blk_alloc ?_ _)); refine blk_put (cs := #[.int .i64 t280, .int .i64 0, .int .i64 0]) ?_ 1 _ rfl; (with_reducible repeat (first | refine blk_drewN ?_ _ | refine blk_drew ?_ | refine blk_alloc ?_ _)); refine blk_put (cs := #[.int .i64 0, .int .i64 0, .int .i64 0]) ?_ 0 _ rfl; (with_reducible repeat (first | refine blk_drewN ?_ _ | refine blk_drew ?_ | refine blk_alloc ?_ _)); exact BK284.out) hb2) (by decide))); clear HO279 BK276 BK284 HB; have HO279 := n0_; have BK276 := n1_; have BK284 := n2_; have HB := n3_; have HI288 := n4_; have NB288_276 := n5_; have NB276_288 := n6_; have NB288_284 := n7_; have NB284_288 := n8_; clear n0_ n1_ n2_ n3_ n4_ n5_ n6_ n7_ n8_; (try clear hb); (try clear hb2); (try clear hk); (try clear hi)) | ((with_reducible refine gate_callee (f := 57) rfl ?_); refine goesL_ (some 19) rfl rfl Try.func57 KR rfl #[.pointer (some ⟨g288, 0, none⟩), .int .i64 4] rfl AR ?_; (with_reducible refine (spec_l1Below.calls g288 t285 t286 t287 4 t289 t290 t291 w _ ?side1 ?side2 A4.out).mono ?_); (case side1 => repeat (first | (with_reducible first | exact HI288.out | apply IsS144.alloc | apply IsS144.drewN | apply IsS144.drew | apply IsS144.set_1 | apply IsS144.set_2 | refine IsS144.far ?_ NB288_276.out _ | refine IsS144.far ?_ NB288_284.out _) | exact HI288.out)); (case side2 => repeat (first | (with_reducible first | exact HB.out | apply below_alloc | apply pw_below_drewN | apply below_drew1 | refine below_set ?_ (IsS144.ge HI288.out) | refine below_set ?_ GE276.out | refine below_set ?_ GE284.out) | exact HB.out)); rintro e w11 ⟨rfl, hi, hb, hk⟩; refine ⟨_, rfl, ?_⟩; have n0_ := ak (KeepBut.blk hk (g' := gb276) (o := .cells #[.int .i64 0, .int .i64 0, .int .i64 0] 26 (0, 0)) (PK BK276) NB276_288.out (by simp)); have n1_ := ak (Kd.S_mono (Kd.S_keep (IsS144.apartS (show IsS144 w _ g288 t285 t286 t287 from by repeat (first | (with_reducible first | exact HI288.out | apply IsS144.alloc | apply IsS144.drewN | apply IsS144.drew | apply IsS144.set_1 | apply IsS144.set_2 | refine IsS144.far ?_ NB288_276.out _ | refine IsS144.far ?_ NB288_284.out _) | exact HI288.out)) (PS HO279) (by decide)) hk (fun _ h => h.2)) (fun _ h => h.1)); have n2_ := ak (KeepBut.blk hk (g' := gb284) (o := .cells #[.int .i64 t280, .int .i64 t281, .int .i64 t282] 26 (0, 0)) (PK BK284) NB284_288.out (by simp)); have n3_ := ak (hb); have n4_ := ak (hi); clear BK276 HO279 BK284 HB HI288; have BK276 := n0_; have HO279 := n1_; have BK284 := n2_; have HB := n3_; have HI288 := n4_; clear n0_ n1_ n2_ n3_ n4_; (try clear hb); (try clear hb2); (try clear hk); (try clear hi)))
 go_loopg [5, 9] k (fun kq v5 v9 w' => ∃ (x5_1 : List (S98)) (x9_1 : Int) (x289001_1 : Int) (x289002_1 : Int), v9 = .int .i64 x9_1 ∧ Aside0 (spec_DrawFollowAt.l0 kq x5_1 t283 x9_1 t280 t281 t282 t285 x289001_1 x289002_1 = some (r1, r2, r3, r4, r5)) ∧ Aside0 (kq ≤ k) ∧ Aside0 (Kd.S k98 98 w' w.heap.size (fun _ => True) v5 x5_1) ∧ Aside0 (w'.heap[gb276]? = some (.cells #[.int .i64 0, .int .i64 0, .int .i64 0] 26 (0, 0))) ∧ Aside0 (w'.heap[gb284]? = some (.cells #[.int .i64 t280, .int .i64 t281, .int .i64 t282] 26 (0, 0))) ∧ Aside0 (IsS144 w w' g288 t285 x289001_1 x289002_1) ∧ Aside0 (Below w.heap.size w w'))
 case atStart => exact ⟨(t277), (t289), (t290), (t291), (by first | rfl | (simp; done) | (simp [*]; done)), H', ⟨Nat.le_refl _⟩, ⟨PS HO279⟩, ⟨PK BK276⟩, ⟨PK BK284⟩, ⟨by repeat (first | (with_reducible first | exact HI288.out | apply IsS144.alloc | apply IsS144.drewN | apply IsS144.drew | apply IsS144.set_1 | apply IsS144.set_2 | refine IsS144.far ?_ NB288_276.out _ | refine IsS144.far ?_ NB288_284.out _) | exact HI288.out)⟩, ⟨by repeat (first | (with_reducible first | exact HB.out | apply below_alloc | apply pw_below_drewN | apply below_drew1 | refine below_set ?_ (IsS144.ge HI288.out) | refine below_set ?_ GE276.out | refine below_set ?_ GE284.out) | exact HB.out)⟩⟩
 case round =>
  clear H'
  (try clear c1); (try clear p2); (try clear c5); (try clear c8); (try clear c11); (try clear hcz9_0); (try clear hcz9_1); (try clear hcz9_2); (try clear hfz9_0); (try clear hfz9_1); (try clear hfz9_2)
  obtain ⟨x5_1, x9_1, x289001_1, x289002_1, rfl, HA, HK1, HO_5, BK276, BK284, HI288, HB⟩ := hrel
  cases gk with
  | zero => exact absurd HA.out (by simp [spec_DrawFollowAt.l0])
  | succ k1 =>
   have H := HA.out
   clear HA
   simp only [spec_DrawFollowAt.l0] at H
   by_cases c12 : x9_1 > 0
   ·rw [if_pos c12] at H
    have c12b0 : decide (0 < x9_1) = true := decide_eq_true c12
    clear c12
    replace H := Option.bind_eq_some_iff.mp H
    obtain ⟨⟨t292, t293, t294, t295, t296⟩, A130, H⟩ := H
    replace H : ((spec_l4Draw.f t285 t295 t296).bind fun bt297 => (if x5_1.length < 1599289640401 then (spec_DrawFollowAt.l0 k1 (x5_1 ++ [(⟨(⟨t292, t293, t294⟩ : S26), 0, (⟨3, ([] : List Int), (⟨bt297.1, bt297.2.1, bt297.2.2.1⟩ : S26)⟩ : S31)⟩ : S98)]) t283 (wrap64 (x9_1 - 1)) t280 t281 t282 t285 bt297.2.2.2.1 bt297.2.2.2.2) else (none))) = some (r1, r2, r3, r4, r5) := H
    have A13 := Aside0.mk A130
    clear A130
    replace H := Option.bind_eq_some_iff.mp H
    obtain ⟨⟨t297, t298, t299, t300, t301⟩, A140, H⟩ := H
    replace H : (if x5_1.length < 1599289640401 then (spec_DrawFollowAt.l0 k1 (x5_1 ++ [(⟨(⟨t292, t293, t294⟩ : S26), 0, (⟨3, ([] : List Int), (⟨t297, t298, t299⟩ : S26)⟩ : S31)⟩ : S98)]) t283 (wrap64 (x9_1 - 1)) t280 t281 t282 t285 t300 t301) else (none)) = some (r1, r2, r3, r4, r5) := H
    have A14 := Aside0.mk A140
    clear A140
    by_cases c15 : x5_1.length < 1599289640401
    ·rw [if_pos c15] at H
     have LMc15 := Aside0.mk c15
     clear c15
     obtain ⟨y302, hy302⟩ : ∃ y_ : List (S98), y_ = (x5_1 ++ [(⟨(⟨t292, t293, t294⟩ : S26), 0, (⟨3, ([] : List Int), (⟨t297, t298, t299⟩ : S26)⟩ : S31)⟩ : S98)]) := ⟨_, rfl⟩
     replace H : (spec_DrawFollowAt.l0 k1 y302 t283 (wrap64 (x9_1 - 1)) t280 t281 t282 t285 t300 t301) = some (r1, r2, r3, r4, r5) := by first | (rw [hy302]; with_reducible exact H) | (have H2_ := (Option.bind_some _ _).symm.trans H; rw [hy302]; with_reducible exact H2_) | (have H2_ := (Option.bind_some _ _).symm.trans H; with_reducible exact H2_) | with_reducible exact H | (rw [hy302]; exact H) | exact H
     have Ny302 := Aside0.mk hy302
     clear hy302
     have H' := Aside0.mk H
     clear H
     go_wp2_with (first | ((with_reducible refine gate_callee (f := 62) rfl ?_); refine goesL_ (some 26) rfl rfl Try.func62 KR rfl #[.pointer (some ⟨g288, 0, none⟩)] rfl AR ?_; (with_reducible refine (spec_l4Draw.calls g288 t285 x289001_1 x289002_1 t292 t293 t294 t295 t296 w _ ?side1 ?side2 A13.out).mono ?_); (case side1 => repeat (first | (with_reducible first | exact HI288.out | apply IsS144.alloc | apply IsS144.drewN | apply IsS144.drew | apply IsS144.set_1 | apply IsS144.set_2 | refine IsS144.far ?_ NB288_276.out _ | refine IsS144.far ?_ NB288_284.out _) | exact HI288.out)); (case side2 => repeat (first | (with_reducible first | exact HB.out | apply below_alloc | apply pw_below_drewN | apply below_drew1 | refine below_set ?_ (IsS144.ge HI288.out) | refine below_set ?_ GE276.out | refine below_set ?_ GE284.out) | exact HB.out)); rintro e w16 ⟨rfl, hi, hb, hk⟩; refine ⟨_, rfl, ?_⟩; have n0_ := ak (Kd.S_mono (Kd.S_keep (IsS144.apartS (show IsS144 w _ g288 t285 x289001_1 x289002_1 from by repeat (first | (with_reducible first | exact HI288.out | apply IsS144.alloc | apply IsS144.drewN | apply IsS144.drew | apply IsS144.set_1 | apply IsS144.set_2 | refine IsS144.far ?_ NB288_276.out _ | refine IsS144.far ?_ NB288_284.out _) | exact HI288.out)) (PS HO_5) (by decide)) hk (fun _ h => h.2)) (fun _ h => h.1)); have n1_ := ak (KeepBut.blk hk (g' := gb276) (o := .cells #[.int .i64 0, .int .i64 0, .int .i64 0] 26 (0, 0)) (PK BK276) NB276_288.out (by simp)); have n2_ := ak (KeepBut.blk hk (g' := gb284) (o := .cells #[.int .i64 t280, .int .i64 t281, .int .i64 t282] 26 (0, 0)) (PK BK284) NB284_288.out (by simp)); have n3_ := ak (hb); have n4_ := ak (hi); clear HO_5 BK276 BK284 HB HI288; have HO_5 := n0_; have BK276 := n1_; have BK284 := n2_; have HB := n3_; have HI288 := n4_; clear n0_ n1_ n2_ n3_ n4_; (try clear hb); (try clear hb2); (try clear hk); (try clear hi)) | ((with_reducible refine gate_callee (f := 62) rfl ?_); refine goesL_ (some 28) rfl rfl Try.func62 KR rfl #[.pointer (some ⟨g288, 0, none⟩)] rfl AR ?_; (with_reducible refine (spec_l4Draw.calls g288 t285 t295 t296 t297 t298 t299 t300 t301 w _ ?side1 ?side2 A14.out).mono ?_); (case side1 => repeat (first | (with_reducible first | exact HI288.out | apply IsS144.alloc | apply IsS144.drewN | apply IsS144.drew | apply IsS144.set_1 | apply IsS144.set_2 | refine IsS144.far ?_ NB288_276.out _ | refine IsS144.far ?_ NB288_284.out _) | exact HI288.out)); (case side2 => repeat (first | (with_reducible first | exact HB.out | apply below_alloc | apply pw_below_drewN | apply below_drew1 | refine below_set ?_ (IsS144.ge HI288.out) | refine below_set ?_ GE276.out | refine below_set ?_ GE284.out) | exact HB.out)); rintro e w17 ⟨rfl, hi, hb, hk⟩; refine ⟨_, rfl, ?_⟩; have n0_ := ak (Kd.S_mono (Kd.S_keep (IsS144.apartS (show IsS144 w _ g288 t285 t295 t296 from by repeat (first | (with_reducible first | exact HI288.out | apply IsS144.alloc | apply IsS144.drewN | apply IsS144.drew | apply IsS144.set_1 | apply IsS144.set_2 | refine IsS144.far ?_ NB288_276.out _ | refine IsS144.far ?_ NB288_284.out _) | exact HI288.out)) (PS HO_5) (by decide)) hk (fun _ h => h.2)) (fun _ h => h.1)); have n1_ := ak (KeepBut.blk hk (g' := gb276) (o := .cells #[.int .i64 0, .int .i64 0, .int .i64 0] 26 (0, 0)) (PK BK276) NB276_288.out (by simp)); have n2_ := ak (KeepBut.blk hk (g' := gb284) (o := .cells #[.int .i64 t280, .int .i64 t281, .int .i64 t282] 26 (0, 0)) (PK BK284) NB284_288.out (by simp)); have n3_ := ak (hb); have n4_ := ak (hi); clear HO_5 BK276 BK284 HB HI288; have HO_5 := n0_; have BK276 := n1_; have BK284 := n2_; have HB := n3_; have HI288 := n4_; clear n0_ n1_ n2_ n3_ n4_; (try clear hb); (try clear hb2); (try clear hk); (try clear hi)) | ((with_reducible refine gate_builtin (b := .append) (xs := #[.tmp 24, .tmp 31]) rfl ?_); at_builtin; refine Kd.S_append k98 (w0 := w) w.heap.size rfl (.tmp 24) (.tmp 31) 24 98 (.agg #[(.int .i64 0), (.int .i64 0), (.int .i64 0), (.int .i64 0), (.int .i64 0), (.slice none 0 0), (.int .i64 0), (.int .i64 0), (.int .i64 0)]) 88 rfl Try.underlying24 info98 rfl (by decide) (by omega) u5 x5_1 (⟨(⟨t292, t293, t294⟩ : S26), 0, (⟨3, ([] : List Int), (⟨t297, t298, t299⟩ : S26)⟩ : S31)⟩ : S98) [.int .i64 t292, .int .i64 t293, .int .i64 t294, .int .i64 0, .int .i64 3, .slice none 0 0, .int .i64 t297, .int .i64 t298, .int .i64 t299] (fun _ => True) (fun _ => False) rfl rfl ?aP (fun k_ hk_ => hk_.elim) ?aF ?aO ?aB ?aS ?aL ?_; (case aP => exact k98_mkM _ _ _ (⟨(⟨t292, t293, t294⟩ : S26), 0, (⟨3, ([] : List Int), (⟨t297, t298, t299⟩ : S26)⟩ : S31)⟩ : S98) (Kd.R_nil _ _ _ _ _)); (case aB => exact (by repeat (first | (with_reducible first | exact HB.out | apply below_alloc | apply pw_below_drewN | apply below_drew1 | refine below_set ?_ (IsS144.ge HI288.out) | refine below_set ?_ GE276.out | refine below_set ?_ GE284.out) | exact HB.out))); (case aF => exact (fun _ _ => trivial)); (case aO => exact (by (with_reducible repeat (first | apply Kd.S_alloc | apply Kd.S_drewN | apply Kd.S_drew)); exact Kd.S_mono HO_5.out (fun k_ hk => ⟨trivial, fun e_ => e_⟩))); (case aS => exact (below_size (by repeat (first | (with_reducible first | exact HB.out | apply below_alloc | apply pw_below_drewN | apply below_drew1 | refine below_set ?_ (IsS144.ge HI288.out) | refine below_set ?_ GE276.out | refine below_set ?_ GE284.out) | exact HB.out)))); (case aL => have := LMc15.out; omega); intro v303 w18 ho hb hg hat; rw [← Ny302.out] at ho; have n0_ := ak (blk_grown (g := gb276) (o := .cells #[.int .i64 0, .int .i64 0, .int .i64 0] 26 (0, 0)) (PK BK276) hg (Kd.S_ne HO_5.out BK276.out (by decide))); have n1_ := ak (blk_grown (g := gb284) (o := .cells #[.int .i64 t280, .int .i64 t281, .int .i64 t282] 26 (0, 0)) (PK BK284) hg (Kd.S_ne HO_5.out BK284.out (by decide))); have n2_ := ak (IsS144.grown (by repeat (first | (with_reducible first | exact HI288.out | apply IsS144.alloc | apply IsS144.drewN | apply IsS144.drew | apply IsS144.set_1 | apply IsS144.set_2 | refine IsS144.far ?_ NB288_276.out _ | refine IsS144.far ?_ NB288_284.out _) | exact HI288.out)) hg (IsS144.own_neS HI288.out HO_5.out (by decide))); have n3_ := ak (hb); have n4_ := ak (ho); clear BK276 BK284 HI288 HB HO_5; have BK276 := n0_; have BK284 := n1_; have HI288 := n2_; have HB := n3_; have HO304 := n4_; clear n0_ n1_ n2_ n3_ n4_; clear ho hb hg hat))
     go_roundg k1
     case measure => have := HK1.out; omega
     case rel => exact ⟨(y302), (wrap64 (x9_1 - 1)), (t300), (t301), (by first | rfl | (simp; done) | (simp [*]; done)), H', ⟨by have := HK1.out; omega⟩, ⟨PS HO304⟩, ⟨PK BK276⟩, ⟨PK BK284⟩, ⟨by repeat (first | (with_reducible first | exact HI288.out | apply IsS144.alloc | apply IsS144.drewN | apply IsS144.drew | apply IsS144.set_1 | apply IsS144.set_2 | refine IsS144.far ?_ NB288_276.out _ | refine IsS144.far ?_ NB288_284.out _) | exact HI288.out)⟩, ⟨by repeat (first | (with_reducible first | exact HB.out | apply below_alloc | apply pw_below_drewN | apply below_drew1 | refine below_set ?_ (IsS144.ge HI288.out) | refine below_set ?_ GE276.out | refine below_set ?_ GE284.out) | exact HB.out)⟩⟩
    ·rw [if_neg c15] at H
     exact absurd H (by simp)
   ·rw [if_neg c12] at H
    have c12b0 : decide (0 < x9_1) = false := decide_eq_false c12
    clear c12
    simp only [Option.some.injEq, Prod.mk.injEq] at H
    obtain ⟨rfl, rfl, rfl, rfl, rfl⟩ := H
    try go_wp2
    have n0_ := ak (Kd.S_drew HO_5.out)
    have n1_ := ak (blk_drew BK276.out)
    have n2_ := ak (blk_drew BK284.out)
    have n3_ := ak (IsS144.drew HI288.out)
    have n4_ := ak (below_drew1 HB.out)
    clear HO_5
    clear BK276
    clear BK284
    clear HI288
    clear HB
    have HO_5 := n0_
    have BK276 := n1_
    have BK284 := n2_
    have HI288 := n3_
    have HB := n4_
    clear n0_ n1_ n2_ n3_ n4_
    refine start_ (n := 6) (S := fun w' => w'.cell? ⟨gb284, 0, none⟩ = some (.int .i64 t280) ∧ w'.cell? ⟨gb284, 1, none⟩ = some (.int .i64 t281) ∧ w'.cell? ⟨gb284, 2, none⟩ = some (.int .i64 t282)) (ds := []) #[false, false, false, false, false, false] KR rfl rfl ⟨(blk_cell BK284.out 0).trans rfl, (blk_cell BK284.out 1).trans rfl, (blk_cell BK284.out 2).trans rfl⟩ (fun hHeld => ?_)
    generalize wr.drew = w19 at HO_5 BK276 BK284 HI288 HB hHeld ⊢
    refine pure_ (i := 0) (N := some 33) (v := ?_) (a' := ?_) #[true, false, false, false, false, false] rfl rfl KR (fun _ _ _ h => h) (Or.inl ⟨by rfl, ?_⟩) ?_ ?_
    rotate_left
    ·intro w'
     go_simp
     with_reducible rfl
    rotate_left
    ·simp only [Act.put, List.setIfInBounds_toArray, List.set_cons_zero, List.set_cons_succ, i64_w, i32_w]
     rfl
    refine pure_ (i := 2) (N := some 35) (v := ?_) (a' := ?_) #[true, false, true, false, false, false] rfl rfl KR (fun _ _ _ h => h) (Or.inl ⟨by rfl, ?_⟩) ?_ ?_
    rotate_left
    ·intro w'
     go_simp
     with_reducible rfl
    rotate_left
    ·simp only [Act.put, List.setIfInBounds_toArray, List.set_cons_zero, List.set_cons_succ, i64_w, i32_w]
     rfl
    refine pure_ (i := 3) (N := some 2) (v := ?_) (a' := ?_) #[true, false, true, true, false, false] rfl rfl KR (fun _ _ _ h => h) (Or.inl ⟨by rfl, ?_⟩) ?_ ?_
    rotate_left
    ·intro w'
     go_simp
     with_reducible rfl
    rotate_left
    ·simp only [Act.put, List.setIfInBounds_toArray, List.set_cons_zero, List.set_cons_succ, i64_w, i32_w]
     rfl
    refine take_ (i := 1) (N := some 34) (v := ?_) (a' := ?_) #[true, true, true, true, false, false] rfl rfl KR (fun _ _ _ h => h) (Or.inl ⟨by rfl, ?_⟩) hHeld ?_ ?_
    rotate_left
    ·rintro w' ⟨s0, s1, s2⟩
     go_simp
     with_reducible rfl
    rotate_left
    ·simp only [Act.put, List.setIfInBounds_toArray, List.set_cons_zero, List.set_cons_succ, i64_w, i32_w]
     rfl
    refine one_ (i := 4) (N := none) #[true, true, true, true, true, false] rfl rfl KR (by decide) (fun K hK => ?_)
    have hs20 : w19.cell? ⟨gb276, 0, none⟩ = some (.int .i64 0) := (blk_cell BK276.out 0).trans rfl
    have hfs20 := blk_frozen BK276.out 0
    have hns20_1 := NB284_276.out
    have hms20_1 := NB276_284.out
    have hs21 : w19.cell? ⟨gb276, 1, none⟩ = some (.int .i64 0) := (blk_cell BK276.out 1).trans rfl
    have hfs21 := blk_frozen BK276.out 1
    have hns21_1 := NB284_276.out
    have hms21_1 := NB276_284.out
    have hs22 : w19.cell? ⟨gb276, 2, none⟩ = some (.int .i64 0) := (blk_cell BK276.out 2).trans rfl
    have hfs22 := blk_frozen BK276.out 2
    have hns22_1 := NB284_276.out
    have hms22_1 := NB276_284.out
    refine skip_ (w1 := ?_) (by rfl) rfl ?_ ?_
    rotate_left
    ·go_simp
     rfl
    refine hK.out _ _ ⟨((cell_far (p := ⟨gb276, _, none⟩) NB284_276.out _).trans (((cell_far (p := ⟨gb276, _, none⟩) NB284_276.out _).trans (((cell_far (p := ⟨gb276, _, none⟩) NB284_276.out _).trans (hHeld.1)))))), ((cell_far (p := ⟨gb276, _, none⟩) NB284_276.out _).trans (((cell_far (p := ⟨gb276, _, none⟩) NB284_276.out _).trans (((cell_far (p := ⟨gb276, _, none⟩) NB284_276.out _).trans (hHeld.2.1)))))), ((cell_far (p := ⟨gb276, _, none⟩) NB284_276.out _).trans (((cell_far (p := ⟨gb276, _, none⟩) NB284_276.out _).trans (((cell_far (p := ⟨gb276, _, none⟩) NB284_276.out _).trans (hHeld.2.2))))))⟩ (fun hHeld => ?_)
    clear hK K
    refine pure_ (i := 5) (N := some 4) (v := ?_) (a' := ?_) #[true, true, true, true, true, true] rfl rfl KR (fun _ _ _ h => h) (Or.inl ⟨by rfl, ?_⟩) ?_ ?_
    rotate_left
    ·intro w'
     go_simp
     with_reducible rfl
    rotate_left
    ·simp only [Act.put, List.setIfInBounds_toArray, List.set_cons_zero, List.set_cons_succ, i64_w, i32_w]
     rfl
    refine done_ KR ?_
    try go_wp2
    refine bodyPost_ret (results_list (rs := [.tmp 2, .cell 3 26, .tmp 4]) rfl (by simp) (.tmp (.cell gb276 26 #[.int .i64 t280, .int .i64 t281, .int .i64 t282] (0, 0) _ rfl (by (with_reducible repeat (first | refine blk_drewN ?_ _ | refine blk_drew ?_ | refine blk_alloc ?_ _)); refine blk_put (cs := #[.int .i64 t280, .int .i64 t281, .int .i64 0]) ?_ 2 _ rfl; (with_reducible repeat (first | refine blk_drewN ?_ _ | refine blk_drew ?_ | refine blk_alloc ?_ _)); refine blk_put (cs := #[.int .i64 t280, .int .i64 0, .int .i64 0]) ?_ 1 _ rfl; (with_reducible repeat (first | refine blk_drewN ?_ _ | refine blk_drew ?_ | refine blk_alloc ?_ _)); refine blk_put (cs := #[.int .i64 0, .int .i64 0, .int .i64 0]) ?_ 0 _ rfl; (with_reducible repeat (first | refine blk_drewN ?_ _ | refine blk_drew ?_ | refine blk_alloc ?_ _)); exact BK276.out) Try.underlying26 rfl KR (.tmp .nil)))) rfl ?_
    exact ⟨_, RT, by (with_reducible repeat (first | apply Kd.S_alloc | apply Kd.S_drewN | apply Kd.S_drew)); exact Kd.S_mono (Kd.S_far (p := ⟨gb276, 2, none⟩) (Kd.S_far (p := ⟨gb276, 1, none⟩) (Kd.S_far (p := ⟨gb276, 0, none⟩) (Kd.S_types HO_5.out BK276.out (by decide)) FK (.int .i64 t280)) FK (.int .i64 t281)) FK (.int .i64 t282)) (fun _ hk => trivial), by repeat (first | (with_reducible first | exact HB.out | apply below_alloc | apply pw_below_drewN | apply below_drew1 | refine below_set ?_ (IsS144.ge HI288.out) | refine below_set ?_ GE276.out | refine below_set ?_ GE284.out) | exact HB.out)⟩

attribute [local go_sem high] eqA26
/-! ### impl_Address_111: function 111 -/
def impl_Address_111.l0 : Nat → List (S26) → Int → Int → Int → Int → Int → Option (Int)
  | 0, _, _, _, _, _, _ => none
  | k + 1, x0, x7, x8, x306000, x306001, x306002 => if x8 < x7 then (if 0 ≤ x8 then (if x8 < (x0.length : Int) then (if (x306000 == ((rd_T26 x0 x8).f0) && (x306001 == ((rd_T26 x0 x8).f1) && (x306002 == ((rd_T26 x0 x8).f2)))) = true then (some x8) else (impl_Address_111.l0 k x0 x7 (wrap64 (x8 + 1)) x306000 x306001 x306002)) else (none)) else (none)) else (some (-1))
def impl_Address_111.f (k : Nat) (l0 : List (S26)) (a1_0 : Int) (a1_1 : Int) (a1_2 : Int) : Option (Int) := impl_Address_111.l0 k l0 (l0.length : Int) 0 a1_0 a1_1 a1_2
set_option maxHeartbeats 8000000 in
set_option maxRecDepth 100000 in
theorem impl_Address_111.calls (k : Nat) (A0 : Option Addr) (c0 : Nat) (l0 : List (S26)) (a1_0 : Int) (a1_1 : Int) (a1_2 : Int) (r : Int) (w : World) (hr0 : Kd.C k26 w A0 l0.length l0) (hc0 : l0.length ≤ c0) (h : impl_Address_111.f k l0 a1_0 a1_1 a1_2 = some r) :
  Calls Try.prog 111 #[.slice A0 l0.length c0, .agg #[.int .i64 a1_0, .int .i64 a1_1, .int .i64 a1_2]] w fun e w' => e = .returned (.int .i64 r) ∧ Below w.heap.size w w' := by
 have hu26 := Try.underlying26
 have HR0 := Aside0.mk hr0
 have HC0 := Aside0.mk hc0
 clear hr0 hc0
 have HB := ak (Below.refl w.heap.size w)
 have H : (impl_Address_111.l0 k l0 (l0.length : Int) 0 a1_0 a1_1 a1_2) = some r := h
 clear h
 have H' := Aside0.mk H
 clear H
 go_enter Try.func111, Try.ntmps111
 go_wp2_with (first | ((with_reducible refine gate_dst (N := 3) rfl ?_); refine bx_ (N := 3) #[.int .i64 a1_0, .int .i64 a1_1, .int .i64 a1_2] 26 ?_; intro gb305 hg w3 hbox hb; have n0_ := ak (below_step PB hb); have n1_ := ak (hbox); have n2_ := ak ((gz hg PB : w.heap.size ≤ gb305)); have n3_ := ak ((gz hg PB : w.heap.size ≤ gb305)); clear HB; have HB := n0_; have BK305 := n1_; have GW305 := n2_; have GE305 := n3_; clear n0_ n1_ n2_ n3_; clear hb hbox hg))
 repeat (go_quiet (first | ((with_reducible refine gate_dst (N := 3) rfl ?_); refine bx_ (N := 3) #[.int .i64 a1_0, .int .i64 a1_1, .int .i64 a1_2] 26 ?_; intro gb305 hg w3 hbox hb; have n0_ := ak (below_step PB hb); have n1_ := ak (hbox); have n2_ := ak ((gz hg PB : w.heap.size ≤ gb305)); have n3_ := ak ((gz hg PB : w.heap.size ≤ gb305)); clear HB; have HB := n0_; have BK305 := n1_; have GW305 := n2_; have GE305 := n3_; clear n0_ n1_ n2_ n3_; clear hb hbox hg)); try go_wp2_with (first | ((with_reducible refine gate_dst (N := 3) rfl ?_); refine bx_ (N := 3) #[.int .i64 a1_0, .int .i64 a1_1, .int .i64 a1_2] 26 ?_; intro gb305 hg w3 hbox hb; have n0_ := ak (below_step PB hb); have n1_ := ak (hbox); have n2_ := ak ((gz hg PB : w.heap.size ≤ gb305)); have n3_ := ak ((gz hg PB : w.heap.size ≤ gb305)); clear HB; have HB := n0_; have BK305 := n1_; have GW305 := n2_; have GE305 := n3_; clear n0_ n1_ n2_ n3_; clear hb hbox hg)))
 go_loopg [8] k (fun kq v8 w' => ∃ (x8_1 : Int), v8 = .int .i64 x8_1 ∧ Aside0 (impl_Address_111.l0 kq l0 (l0.length : Int) x8_1 a1_0 a1_1 a1_2 = some r) ∧ Aside0 (kq ≤ k) ∧ Aside0 (w'.heap[gb305]? = some (.cells #[.int .i64 a1_0, .int .i64 a1_1, .int .i64 a1_2] 26 (0, 0))) ∧ Aside0 (Below w.heap.size w w'))
 case atStart => exact ⟨(0), (by first | rfl | (simp; done) | (simp [*]; done)), H', ⟨Nat.le_refl _⟩, ⟨PK BK305⟩, ⟨PB⟩⟩
 case round =>
  clear H'
  (try clear c1); (try clear p2)
  obtain ⟨x8_1, rfl, HA, HK1, BK305, HB⟩ := hrel
  cases gk with
  | zero => exact absurd HA.out (by simp [impl_Address_111.l0])
  | succ k1 =>
   have H := HA.out
   clear HA
   simp only [impl_Address_111.l0] at H
   by_cases c4 : x8_1 < (l0.length : Int)
   ·rw [if_pos c4] at H
    have c4b0 : decide (x8_1 < (l0.length : Int)) = true := decide_eq_true c4
    clear c4
    by_cases c5 : 0 ≤ x8_1
    ·rw [if_pos c5] at H
     have c5b0 : decide (0 ≤ x8_1) = true := decide_eq_true c5
     clear c5
     by_cases c6 : x8_1 < (l0.length : Int)
     ·rw [if_pos c6] at H
      have c6b0 : decide (x8_1 < (l0.length : Int)) = true := decide_eq_true c6
      clear c6
      by_cases c7 : (a1_0 == ((rd_T26 l0 x8_1).f0) && (a1_1 == ((rd_T26 l0 x8_1).f1) && (a1_2 == ((rd_T26 l0 x8_1).f2)))) = true
      ·rw [if_pos c7] at H
       have c7b0 : (a1_0 == ((rd_T26 l0 x8_1).f0) && (a1_1 == ((rd_T26 l0 x8_1).f1) && (a1_2 == ((rd_T26 l0 x8_1).f2)))) = true := c7
       (try (have c7b1 : decide (a1_0 = ((rd_T26 l0 x8_1).f0) && (a1_1 == ((rd_T26 l0 x8_1).f1) && (a1_2 == ((rd_T26 l0 x8_1).f2)))) = true := by simpa using c7))
       (try (have c7b2 : (a1_0 == ((rd_T26 l0 x8_1).f0) && (a1_1 == ((rd_T26 l0 x8_1).f1) && (a1_2 == ((rd_T26 l0 x8_1).f2)))) = true := by simpa using c7))
       clear c7
       obtain rfl := Option.some.inj H
       have hcz8_0 : wr.cell? ⟨gb305, 0, none⟩ = some (.int .i64 a1_0) := (blk_cell BK305.out 0).trans rfl
       have hcz8_1 : wr.cell? ⟨gb305, 1, none⟩ = some (.int .i64 a1_1) := (blk_cell BK305.out 1).trans rfl
       have hcz8_2 : wr.cell? ⟨gb305, 2, none⟩ = some (.int .i64 a1_2) := (blk_cell BK305.out 2).trans rfl
       have hfz8_0 := blk_frozen BK305.out 0
       have hfz8_1 := blk_frozen BK305.out 1
       have hfz8_2 := blk_frozen BK305.out 2
       have p306 : 0 ≤ (x8_1 : Int) := of_decide_eq_true (by first | (with_reducible assumption) | assumption)
       have q306 : x8_1 < (l0.length : Int) := of_decide_eq_true (by first | (with_reducible assumption) | assumption)
       obtain ⟨ad306, e306, hx306_0, hx306_1, hx306_2⟩ := at_T26 HR0.out x8_1 p306 q306
       cases e306
       replace hx306_0 := (HB.out.cell (World.block_lt_of_cell? w _ hx306_0)).trans hx306_0
       replace hx306_1 := (HB.out.cell (World.block_lt_of_cell? w _ hx306_1)).trans hx306_1
       replace hx306_2 := (HB.out.cell (World.block_lt_of_cell? w _ hx306_2)).trans hx306_2
       replace p306 := eq_true p306
       replace q306 := eq_true q306
       go_wp2
       repeat (go_quiet (fail); try go_wp2)
       go_ret
       exact ⟨RT, PB⟩
      ·rw [if_neg c7] at H
       have c7b0 : (a1_0 == ((rd_T26 l0 x8_1).f0) && (a1_1 == ((rd_T26 l0 x8_1).f1) && (a1_2 == ((rd_T26 l0 x8_1).f2)))) = false := by simpa using c7
       (try (have c7b1 : decide (a1_0 = ((rd_T26 l0 x8_1).f0) && (a1_1 == ((rd_T26 l0 x8_1).f1) && (a1_2 == ((rd_T26 l0 x8_1).f2)))) = false := by simpa using c7))
       (try (have c7b2 : (a1_0 == ((rd_T26 l0 x8_1).f0) && (a1_1 == ((rd_T26 l0 x8_1).f1) && (a1_2 == ((rd_T26 l0 x8_1).f2)))) = false := by simpa using c7))
       (try (have c7b3 : ¬ (a1_0 = ((rd_T26 l0 x8_1).f0) && (a1_1 == ((rd_T26 l0 x8_1).f1) && (a1_2 == ((rd_T26 l0 x8_1).f2)))) := by simpa using c7))
       clear c7
       have H' := Aside0.mk H
       clear H
       have hcz9_0 : wr.cell? ⟨gb305, 0, none⟩ = some (.int .i64 a1_0) := (blk_cell BK305.out 0).trans rfl
       have hcz9_1 : wr.cell? ⟨gb305, 1, none⟩ = some (.int .i64 a1_1) := (blk_cell BK305.out 1).trans rfl
       have hcz9_2 : wr.cell? ⟨gb305, 2, none⟩ = some (.int .i64 a1_2) := (blk_cell BK305.out 2).trans rfl
       have hfz9_0 := blk_frozen BK305.out 0
       have hfz9_1 := blk_frozen BK305.out 1
       have hfz9_2 := blk_frozen BK305.out 2
       have p306 : 0 ≤ (x8_1 : Int) := of_decide_eq_true (by first | (with_reducible assumption) | assumption)
       have q306 : x8_1 < (l0.length : Int) := of_decide_eq_true (by first | (with_reducible assumption) | assumption)
       obtain ⟨ad306, e306, hx306_0, hx306_1, hx306_2⟩ := at_T26 HR0.out x8_1 p306 q306
       cases e306
       replace hx306_0 := (HB.out.cell (World.block_lt_of_cell? w _ hx306_0)).trans hx306_0
       replace hx306_1 := (HB.out.cell (World.block_lt_of_cell? w _ hx306_1)).trans hx306_1
       replace hx306_2 := (HB.out.cell (World.block_lt_of_cell? w _ hx306_2)).trans hx306_2
       replace p306 := eq_true p306
       replace q306 := eq_true q306
       go_wp2
       repeat (go_quiet (fail); try go_wp2)
       go_roundg k1
       case measure => have := HK1.out; omega
       case rel => exact ⟨(wrap64 (x8_1 + 1)), (by first | rfl | (simp; done) | (simp [*]; done)), H', ⟨by have := HK1.out; omega⟩, ⟨PK BK305⟩, ⟨PB⟩⟩
     ·rw [if_neg c6] at H
      exact absurd H (by simp)
    ·rw [if_neg c5] at H
     exact absurd H (by simp)
   ·rw [if_neg c4] at H
    have c4b0 : decide (x8_1 < (l0.length : Int)) = false := decide_eq_false c4
    clear c4
    obtain rfl := Option.some.inj H
    go_wp2
    repeat (go_quiet (fail); try go_wp2)
    go_ret
    exact ⟨RT, PB⟩

/-! ### impl_Address_63: function 63 -/
def impl_Address_63.f (k : Nat) (l0 : List (S26)) (a1_0 : Int) (a1_1 : Int) (a1_2 : Int) : Option (Bool) := (impl_Address_111.f k l0 a1_0 a1_1 a1_2).bind fun t308 => (some (decide (t308 ≥ 0)))
set_option maxHeartbeats 8000000 in
set_option maxRecDepth 100000 in
theorem impl_Address_63.calls (k : Nat) (A0 : Option Addr) (c0 : Nat) (l0 : List (S26)) (a1_0 : Int) (a1_1 : Int) (a1_2 : Int) (r : Bool) (w : World) (hr0 : Kd.C k26 w A0 l0.length l0) (hc0 : l0.length ≤ c0) (h : impl_Address_63.f k l0 a1_0 a1_1 a1_2 = some r) :
  Calls Try.prog 63 #[.slice A0 l0.length c0, .agg #[.int .i64 a1_0, .int .i64 a1_1, .int .i64 a1_2]] w fun e w' => e = .returned (.bool r) ∧ Below w.heap.size w w' := by
 have hu26 := Try.underlying26
 have HR0 := Aside0.mk hr0
 have HC0 := Aside0.mk hc0
 clear hr0 hc0
 have HB := ak (Below.refl w.heap.size w)
 have H : ((impl_Address_111.f k l0 a1_0 a1_1 a1_2).bind fun t308 => (some (decide (t308 ≥ 0)))) = some r := h
 clear h
 replace H := Option.bind_eq_some_iff.mp H
 obtain ⟨t308, A30, H⟩ := H
 replace H : (some (decide (t308 ≥ 0))) = some r := H
 have A3 := Aside0.mk A30
 clear A30
 obtain rfl := Option.some.inj H
 go_enter Try.func63, Try.ntmps63
 go_wp2_with (first | ((with_reducible refine gate_dst (N := 3) rfl ?_); refine bx_ (N := 3) #[.int .i64 a1_0, .int .i64 a1_1, .int .i64 a1_2] 26 ?_; intro gb307 hg w4 hbox hb; have n0_ := ak (below_step PB hb); have n1_ := ak (hbox); have n2_ := ak ((gz hg PB : w.heap.size ≤ gb307)); have n3_ := ak ((gz hg PB : w.heap.size ≤ gb307)); clear HB; have HB := n0_; have BK307 := n1_; have GW307 := n2_; have GE307 := n3_; clear n0_ n1_ n2_ n3_; clear hb hbox hg; have hcz5_0 : w4.cell? ⟨gb307, 0, none⟩ = some (.int .i64 a1_0) := (blk_cell BK307.out 0).trans rfl; have hcz5_1 : w4.cell? ⟨gb307, 1, none⟩ = some (.int .i64 a1_1) := (blk_cell BK307.out 1).trans rfl; have hcz5_2 : w4.cell? ⟨gb307, 2, none⟩ = some (.int .i64 a1_2) := (blk_cell BK307.out 2).trans rfl; have hfz5_0 := blk_frozen BK307.out 0; have hfz5_1 := blk_frozen BK307.out 1; have hfz5_2 := blk_frozen BK307.out 2) | ((with_reducible refine gate_callee (f := 111) rfl ?_); refine goesL_ (some 7) rfl rfl Try.func111 KR rfl #[.slice A0 l0.length c0, .agg #[.int .i64 a1_0, .int .i64 a1_1, .int .i64 a1_2]] rfl AR ?_; (with_reducible refine (impl_Address_111.calls k _ _ l0 a1_0 a1_1 a1_2 t308 _ ?side1 ?side2 A3.out).mono ?_); (case side1 => repeat (first | exact (Kd.C_below HR0.out HB.out) | (with_reducible refine Kd.C_alloc ?_ _) | (with_reducible refine Kd.C_drewN ?_ _) | (with_reducible refine Kd.C_drew ?_))); (case side2 => exact HC0.out); rintro e w6 ⟨rfl, hb⟩; refine ⟨_, rfl, ?_⟩; have n0_ := ak (kb BK307 hb); have n1_ := ak (below_step PB hb); clear BK307 HB; have BK307 := n0_; have HB := n1_; clear n0_ n1_; (try clear hb); (try clear hb2); (try clear hk); (try clear hi)))
 go_ret
 exact ⟨RT, PB⟩

end Go.Proofs.Ytdpkidjddlnafaa.MFnSites
