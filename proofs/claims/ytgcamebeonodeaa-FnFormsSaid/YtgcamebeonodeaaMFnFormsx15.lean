-- Written by a program of this session out of the translation's own print. Not trusted: Lean checks it.
import Derived.Test.YtgcamebeonodeaaShr2
import Derived.Test.YtgcamebeonodeaaMFnFormsx0
import Derived.Test.YtgcamebeonodeaaMFnFormsx6
import Derived.Test.YtgcamebeonodeaaMFnFormsx7
import Derived.Test.YtgcamebeonodeaaMFnFormsx9
import Derived.Test.YtgcamebeonodeaaMFnFormsx14
namespace Go.Proofs.Ytgcamebeonodeaa.MFnForms
open Go.RowKit Go.Proofs.YtgcamebeonodeaaW.PrintWords Go.Proofs.YtgcamebeonodeaaW.PrintLast Go.Proofs.YtgcamebeonodeaaW.PrintMore
attribute [local go_sem] max2_int min2_int max_two min_two max_three min_three max_four min_four   -- for this text's walks alone
set_option linter.unusedVariables false
set_option linter.unusedSimpArgs false

abbrev b15_0 : Array Bool := #[true, true, false, false, false, false]
abbrev b15_1 : Array Bool := #[false, true, false, false, false, false]
abbrev b15_2 : Array Bool := #[false, false, false, false, false, false]
theorem bq15 {w : World} {g : Nat} {t : TypeId} {cs : Array Value} {v : Value} (b : Aside0 (w.heap[g]? = some (.cells cs t (0, 0)))) (i : Nat) (h : cs[i]? = some v := by rfl) : w.cell? ⟨g, i, none⟩ = some v := (blk_cell b.out i).trans h
/-! ### spec_DrawGuessForm: function 60 -/
def spec_DrawGuessForm.f (k : Nat) (l0 : List Int) : Option (Int × Int × Int × Bool × Int) := (spec_DrawLearnForm.f k l0).bind fun bt508 => ((spec_l1New.f k l0).bind fun bt515 => ((spec_LearnForm.f k bt508.1 bt508.2.1 bt508.2.2.1 bt508.2.2.2).bind fun bt519 => ((spec_l1Once.f bt515.1 bt515.2.1 bt515.2.2 8).bind fun bt524 => (if bt524.1 = true then ((spec_l4Raw.f bt515.1 bt524.2.1 bt524.2.2).bind fun bt527 => ((spec_l1Int.f bt515.1 bt527.2.1 bt527.2.2 (([0, 1, 3, 99, 100, (-1)] : List Int))).bind fun bt533 => (some (bt519.1, bt527.1, bt519.2.2.1, bt519.2.2.2, bt533.1)))) else ((spec_l1Int.f bt515.1 bt524.2.1 bt524.2.2 (([0, 1, 3, 99, 100, (-1)] : List Int))).bind fun bt539 => (some (bt519.1, bt519.2.1, bt519.2.2.1, bt519.2.2.2, bt539.1)))))))
set_option maxHeartbeats 8000000 in
set_option maxRecDepth 100000 in
theorem spec_DrawGuessForm.calls (k : Nat) (A0 : Option Addr) (c0 : Nat) (l0 : List Int) (r1 : Int) (r2 : Int) (r3 : Int) (r4 : Bool) (r5 : Int) (w : World) (hr0 : Kd.C (Kd.int .u8) w A0 l0.length l0) (hc0 : l0.length ≤ c0) (h : spec_DrawGuessForm.f k l0 = some (r1, r2, r3, r4, r5)) :
  Calls Try.prog 60 #[.slice A0 l0.length c0] w fun e w' => e = .returned (.tuple #[.agg #[.int .i64 r1, .int .i64 r2, .int .i64 r3, .bool r4], .int .i64 r5]) ∧ Below w.heap.size w w' := by
 have hu85 := Try.underlying85; have hu26 := Try.underlying26; have HR0 := Aside0.mk hr0; have HC0 := Aside0.mk hc0; clear hr0 hc0; have HB := ak (Below.refl w.heap.size w)
 have H : ((spec_DrawLearnForm.f k l0).bind fun bt508 => ((spec_l1New.f k l0).bind fun bt515 => ((spec_LearnForm.f k bt508.1 bt508.2.1 bt508.2.2.1 bt508.2.2.2).bind fun bt519 => ((spec_l1Once.f bt515.1 bt515.2.1 bt515.2.2 8).bind fun bt524 => (if bt524.1 = true then ((spec_l4Raw.f bt515.1 bt524.2.1 bt524.2.2).bind fun bt527 => ((spec_l1Int.f bt515.1 bt527.2.1 bt527.2.2 (([0, 1, 3, 99, 100, (-1)] : List Int))).bind fun bt533 => (some (bt519.1, bt527.1, bt519.2.2.1, bt519.2.2.2, bt533.1)))) else ((spec_l1Int.f bt515.1 bt524.2.1 bt524.2.2 (([0, 1, 3, 99, 100, (-1)] : List Int))).bind fun bt539 => (some (bt519.1, bt519.2.1, bt519.2.2.1, bt519.2.2.2, bt539.1)))))))) = some (r1, r2, r3, r4, r5) := h
 clear h; replace H := Option.bind_eq_some_iff.mp H
 obtain ⟨⟨t508, t511, t512, t513⟩, A20, H⟩ := H
 replace H : ((spec_l1New.f k l0).bind fun bt515 => ((spec_LearnForm.f k t508 t511 t512 t513).bind fun bt519 => ((spec_l1Once.f bt515.1 bt515.2.1 bt515.2.2 8).bind fun bt524 => (if bt524.1 = true then ((spec_l4Raw.f bt515.1 bt524.2.1 bt524.2.2).bind fun bt527 => ((spec_l1Int.f bt515.1 bt527.2.1 bt527.2.2 (([0, 1, 3, 99, 100, (-1)] : List Int))).bind fun bt533 => (some (bt519.1, bt527.1, bt519.2.2.1, bt519.2.2.2, bt533.1)))) else ((spec_l1Int.f bt515.1 bt524.2.1 bt524.2.2 (([0, 1, 3, 99, 100, (-1)] : List Int))).bind fun bt539 => (some (bt519.1, bt519.2.1, bt519.2.2.1, bt519.2.2.2, bt539.1))))))) = some (r1, r2, r3, r4, r5) := H
 have A2 := Aside0.mk A20; clear A20; replace H := Option.bind_eq_some_iff.mp H
 obtain ⟨⟨t515, t516, t517⟩, A30, H⟩ := H
 replace H : ((spec_LearnForm.f k t508 t511 t512 t513).bind fun bt519 => ((spec_l1Once.f t515 t516 t517 8).bind fun bt524 => (if bt524.1 = true then ((spec_l4Raw.f t515 bt524.2.1 bt524.2.2).bind fun bt527 => ((spec_l1Int.f t515 bt527.2.1 bt527.2.2 (([0, 1, 3, 99, 100, (-1)] : List Int))).bind fun bt533 => (some (bt519.1, bt527.1, bt519.2.2.1, bt519.2.2.2, bt533.1)))) else ((spec_l1Int.f t515 bt524.2.1 bt524.2.2 (([0, 1, 3, 99, 100, (-1)] : List Int))).bind fun bt539 => (some (bt519.1, bt519.2.1, bt519.2.2.1, bt519.2.2.2, bt539.1)))))) = some (r1, r2, r3, r4, r5) := H
 have A3 := Aside0.mk A30; clear A30; replace H := Option.bind_eq_some_iff.mp H
 obtain ⟨⟨t519, t520, t521, t522⟩, A40, H⟩ := H
 replace H : ((spec_l1Once.f t515 t516 t517 8).bind fun bt524 => (if bt524.1 = true then ((spec_l4Raw.f t515 bt524.2.1 bt524.2.2).bind fun bt527 => ((spec_l1Int.f t515 bt527.2.1 bt527.2.2 (([0, 1, 3, 99, 100, (-1)] : List Int))).bind fun bt533 => (some (t519, bt527.1, t521, t522, bt533.1)))) else ((spec_l1Int.f t515 bt524.2.1 bt524.2.2 (([0, 1, 3, 99, 100, (-1)] : List Int))).bind fun bt539 => (some (t519, t520, t521, t522, bt539.1))))) = some (r1, r2, r3, r4, r5) := H
 have A4 := Aside0.mk A40; clear A40; replace H := Option.bind_eq_some_iff.mp H
 obtain ⟨⟨t524, t525, t526⟩, A50, H⟩ := H
 replace H : (if t524 = true then ((spec_l4Raw.f t515 t525 t526).bind fun bt527 => ((spec_l1Int.f t515 bt527.2.1 bt527.2.2 (([0, 1, 3, 99, 100, (-1)] : List Int))).bind fun bt533 => (some (t519, bt527.1, t521, t522, bt533.1)))) else ((spec_l1Int.f t515 t525 t526 (([0, 1, 3, 99, 100, (-1)] : List Int))).bind fun bt539 => (some (t519, t520, t521, t522, bt539.1)))) = some (r1, r2, r3, r4, r5) := H
 have A5 := Aside0.mk A50; clear A50
 by_cases c6 : t524 = true
 ·subst c6
  have H1 : ((spec_l4Raw.f t515 t525 t526).bind fun bt527 => ((spec_l1Int.f t515 bt527.2.1 bt527.2.2 (([0, 1, 3, 99, 100, (-1)] : List Int))).bind fun bt533 => (some (t519, bt527.1, t521, t522, bt533.1)))) = some (r1, r2, r3, r4, r5) := by rw [if_pos rfl] at H; exact H
  clear H; have H := H1; clear H1; replace H := Option.bind_eq_some_iff.mp H
  obtain ⟨⟨t527, t528, t529⟩, A70, H⟩ := H
  replace H : ((spec_l1Int.f t515 t528 t529 (([0, 1, 3, 99, 100, (-1)] : List Int))).bind fun bt533 => (some (t519, t527, t521, t522, bt533.1))) = some (r1, r2, r3, r4, r5) := H
  have A7 := Aside0.mk A70; clear A70
  obtain ⟨y530, hy530⟩ : ∃ y_ : List Int, y_ = (([0, 1, 3, 99, 100, (-1)] : List Int)) := ⟨_, rfl⟩
  replace H : ((spec_l1Int.f t515 t528 t529 y530).bind fun bt533 => (some (t519, t527, t521, t522, bt533.1))) = some (r1, r2, r3, r4, r5) := by first | (rw [hy530]; with_reducible exact H) | (have H2_ := (Option.bind_some _ _).symm.trans H; rw [hy530]; with_reducible exact H2_) | (have H2_ := (Option.bind_some _ _).symm.trans H; with_reducible exact H2_) | with_reducible exact H | (rw [hy530]; exact H) | exact H
  have Ny530 := Aside0.mk hy530; clear hy530; replace H := Option.bind_eq_some_iff.mp H
  obtain ⟨⟨t533, t534, t535⟩, A80, H⟩ := H
  replace H : (some (t519, t527, t521, t522, t533)) = some (r1, r2, r3, r4, r5) := H
  have A8 := Aside0.mk A80; clear A80
  simp only [Option.some.injEq, Prod.mk.injEq] at H
  obtain ⟨rfl, rfl, rfl, rfl, rfl⟩ := H
  go_enter Try.func60, Try.ntmps60
  try go_wp2_with (first | ((with_reducible refine gate_dst (N := 2) rfl ?_); refine bx_ (N := 2) #[.int .i64 0, .int .i64 0, .int .i64 0, .bool false] 85 ?_; intro gb507 hg w9 hbox hb; have BK507 := ak hbox; have GW507 := gy hg HB; have GE507 := gy hg HB; replace HB := bs HB hb; clear hb hbox hg) | ((with_reducible refine gate_callee (f := 54) rfl ?_); refine goesL_ (some 10) rfl rfl Try.func54 KR rfl #[.slice A0 l0.length c0] rfl AR ?_; (with_reducible refine (spec_DrawLearnForm.calls k _ _ l0 t508 t511 t512 t513 _ ?side1 ?side2 A2.out).mono ?_); (case side1 => exact CR (Kd.C_below HR0.out HB.out)); (case side2 => exact HC0.out); rintro e w10 ⟨v509, rfl, ho0, hb⟩; refine ⟨_, rfl, ?_⟩; have HO510 := ak (Kd.S_lower ho0 (below_size PB)); replace BK507 := kf BK507 hb; replace HB := bs HB hb; (try clear hb); (try clear hb2); (try clear hk); (try clear hi); (try clear ho0)) | ((with_reducible refine gate_dst (N := 5) rfl ?_); refine bx_ (N := 5) #[.int .i64 0, .int .i64 0, .int .i64 0] 26 ?_; intro gb514 hg w11 hbox hb; replace HO510 := Sb HO510 hb; have BK514 := ak hbox; have GW514 := gy hg HB; have GE514 := gy hg HB; replace HB := bs HB hb; have NB507_514 := gm hg BK507; have NB514_507 := gn hg BK507; replace BK507 := kf BK507 hb; clear hb hbox hg; have hnb12 := NB514_507.out; have hnc12 := NB507_514.out; obtain ⟨_, _, _, _, _, _⟩ := bc3 BK514) | ((with_reducible refine gate_callee (f := 66) rfl ?_); refine goesL_ (some 14) rfl rfl Try.func66 KR rfl #[.slice A0 l0.length c0] rfl AR ?_; (with_reducible refine (spec_l1New.calls k _ _ l0 t515 t516 t517 w _ ?side1 ?side2 ?side3 A3.out).mono ?_); (case side1 => exact PL); (case side2 => exact HR0.out); (case side3 => exact HC0.out); rintro e w14 ⟨g518, rfl, hi, hb, hb2⟩; refine ⟨_, rfl, ?_⟩; replace HO510 := ak (Kd.S_below (Se1 HO510 BK514) hb2); replace HB := ak hb; have HI518 := ak (hi); have NB518_507 := ak (IsS158.ne_blk hi (blk_below (g := gb507) (o := .cells #[.int .i64 0, .int .i64 0, .int .i64 0, .bool false] 85 (0, 0)) (PF BK507) hb2) (by decide)); have NB507_518 := ak (Ne.symm (IsS158.ne_blk hi (blk_below (g := gb507) (o := .cells #[.int .i64 0, .int .i64 0, .int .i64 0, .bool false] 85 (0, 0)) (PF BK507) hb2) (by decide))); replace BK507 := ak (blk_below (g := gb507) (o := .cells #[.int .i64 0, .int .i64 0, .int .i64 0, .bool false] 85 (0, 0)) (PF BK507) hb2); have NB518_514 := ak (IsS158.ne_blk hi (blk_below (g := gb514) (o := .cells #[.int .i64 t511, .int .i64 t512, .int .i64 t513] 26 (0, 0)) (PX BK514) hb2) (by decide)); have NB514_518 := ak (Ne.symm (IsS158.ne_blk hi (blk_below (g := gb514) (o := .cells #[.int .i64 t511, .int .i64 t512, .int .i64 t513] 26 (0, 0)) (PX BK514) hb2) (by decide))); replace BK514 := ak (blk_below (g := gb514) (o := .cells #[.int .i64 t511, .int .i64 t512, .int .i64 t513] 26 (0, 0)) (PX BK514) hb2); (try clear hb); (try clear hb2); (try clear hk); (try clear hi); have hnb15 := NB514_518.out; have hnc15 := NB518_514.out; obtain ⟨_, _, _, _, _, _⟩ := bc3 BK514; obtain ⟨Ao17, co17, eo17⟩ := Kd.S_slice HO510.out; subst eo17) | ((with_reducible refine gate_callee (f := 48) rfl ?_); refine goesL_ (some 17) rfl rfl Try.func48 KR rfl #[.slice Ao17 t508.length co17, .agg #[.int .i64 t511, .int .i64 t512, .int .i64 t513]] rfl AR ?_; (with_reducible refine (spec_LearnForm.calls k (fun k_ => (((True ∧ k_ ≠ gb507) ∧ k_ ≠ gb514) ∧ k_ ≠ g518)) _ _ t508 t511 t512 t513 t519 t520 t521 t522 _ ?side1 A4.out).mono ?_); (case side1 => exact Kd.S_V (IsS158.apartS HI518.out (Kd.S_types (Kd.S_types (HO510.out) BK507.out (by decide)) BK514.out (by decide)) (by decide))); rintro e w18 ⟨rfl, hb⟩; refine ⟨_, rfl, ?_⟩; replace HO510 := Sb HO510 hb; replace BK507 := kf BK507 hb; replace BK514 := kf BK514 hb; replace HB := ak (below_step (by repeat (first | (with_reducible first | exact HB.out | apply below_alloc | apply pw_below_drewN | apply below_drew1 | refine below_set ?_ (IsS158.ge HI518.out) | refine below_set ?_ GE507.out | refine below_set ?_ GE514.out) | exact HB.out)) hb); replace HI518 := ak (IsS158.below (by repeat (first | (with_reducible first | exact HI518.out | apply IsS158.alloc | apply IsS158.drewN | apply IsS158.drew | apply IsS158.set_1 | apply IsS158.set_2 | refine IsS158.far ?_ NB518_507.out _ | refine IsS158.far ?_ NB518_514.out _) | exact HI518.out)) hb); (try clear hb); (try clear hb2); (try clear hk); (try clear hi)) | ((with_reducible refine gate_dst (N := 7) rfl ?_); refine bx_ (N := 7) #[.int .i64 0, .int .i64 0, .int .i64 0, .bool false] 85 ?_; intro gb523 hg w19 hbox hb; replace HO510 := Sb HO510 hb; have BK523 := ak hbox; have GW523 := ak ((by rw [hg]; exact (below_size (by repeat (first | (with_reducible first | exact HB.out | apply below_alloc | apply pw_below_drewN | apply below_drew1 | refine below_set ?_ (IsS158.ge HI518.out) | refine below_set ?_ GE507.out | refine below_set ?_ GE514.out) | exact HB.out))) : w.heap.size ≤ gb523)); have GE523 := ak ((by rw [hg]; exact (below_size (by repeat (first | (with_reducible first | exact HB.out | apply below_alloc | apply pw_below_drewN | apply below_drew1 | refine below_set ?_ (IsS158.ge HI518.out) | refine below_set ?_ GE507.out | refine below_set ?_ GE514.out) | exact HB.out))) : w.heap.size ≤ gb523)); replace HB := ak (below_step (by repeat (first | (with_reducible first | exact HB.out | apply below_alloc | apply pw_below_drewN | apply below_drew1 | refine below_set ?_ (IsS158.ge HI518.out) | refine below_set ?_ GE507.out | refine below_set ?_ GE514.out) | exact HB.out)) hb); have NB507_523 := gm hg BK507; have NB523_507 := gn hg BK507; replace BK507 := kf BK507 hb; have NB514_523 := gm hg BK514; have NB523_514 := gn hg BK514; replace BK514 := kf BK514 hb; have NB518_523 := ak ((by rw [hg]; exact Nat.ne_of_lt (IsS158.lt (show IsS158 w _ g518 t515 t516 t517 from by repeat (first | (with_reducible first | exact HI518.out | apply IsS158.alloc | apply IsS158.drewN | apply IsS158.drew | apply IsS158.set_1 | apply IsS158.set_2 | refine IsS158.far ?_ NB518_507.out _ | refine IsS158.far ?_ NB518_514.out _) | exact HI518.out))) : g518 ≠ gb523)); have NB523_518 := ak ((by rw [hg]; exact Nat.ne_of_gt (IsS158.lt (show IsS158 w _ g518 t515 t516 t517 from by repeat (first | (with_reducible first | exact HI518.out | apply IsS158.alloc | apply IsS158.drewN | apply IsS158.drew | apply IsS158.set_1 | apply IsS158.set_2 | refine IsS158.far ?_ NB518_507.out _ | refine IsS158.far ?_ NB518_514.out _) | exact HI518.out))) : gb523 ≠ g518)); replace HI518 := ak (IsS158.below (by repeat (first | (with_reducible first | exact HI518.out | apply IsS158.alloc | apply IsS158.drewN | apply IsS158.drew | apply IsS158.set_1 | apply IsS158.set_2 | refine IsS158.far ?_ NB518_507.out _ | refine IsS158.far ?_ NB518_514.out _) | exact HI518.out)) hb); clear hb hbox hg; have hnb20 := NB523_507.out; have hnc20 := NB507_523.out; have hnb21 := NB523_514.out; have hnc21 := NB514_523.out; have hnb22 := NB523_518.out; have hnc22 := NB518_523.out; obtain ⟨_, _, _, _, _, _, _, _⟩ := bc4 BK523) | ((with_reducible refine gate_callee (f := 119) rfl ?_); refine goesL_ (some 19) rfl rfl Try.func119 KR rfl #[.pointer (some ⟨g518, 0, none⟩), .int .i64 8] rfl AR ?_; (with_reducible refine (spec_l1Once.calls g518 t515 t516 t517 8 true t525 t526 w _ ?side1 ?side2 A5.out).mono ?_); (case side1 => repeat (first | (with_reducible first | exact HI518.out | apply IsS158.alloc | apply IsS158.drewN | apply IsS158.drew | apply IsS158.set_1 | apply IsS158.set_2 | refine IsS158.far ?_ NB518_507.out _ | refine IsS158.far ?_ NB518_514.out _ | refine IsS158.far ?_ NB518_523.out _) | exact HI518.out)); (case side2 => repeat (first | (with_reducible first | exact HB.out | apply below_alloc | apply pw_below_drewN | apply below_drew1 | refine below_set ?_ (IsS158.ge HI518.out) | refine below_set ?_ GE507.out | refine below_set ?_ GE514.out | refine below_set ?_ GE523.out) | exact HB.out)); rintro e w24 ⟨rfl, hi, hb, hk⟩; refine ⟨_, rfl, ?_⟩; replace BK507 := kq hk BK507 NB507_518; replace HO510 := Sk (IsS158.apartS (show IsS158 w _ g518 t515 t516 t517 from by repeat (first | (with_reducible first | exact HI518.out | apply IsS158.alloc | apply IsS158.drewN | apply IsS158.drew | apply IsS158.set_1 | apply IsS158.set_2 | refine IsS158.far ?_ NB518_507.out _ | refine IsS158.far ?_ NB518_514.out _ | refine IsS158.far ?_ NB518_523.out _) | exact HI518.out)) (Se1 HO510 BK523) (by decide)) hk; replace BK514 := kq hk BK514 NB514_518; replace BK523 := kr (cs' := #[.int .i64 t519, .int .i64 t520, .int .i64 t521, .bool t522]) hk BK523 NB523_518; replace HB := ak hb; replace HI518 := ak (hi); (try clear hb); (try clear hb2); (try clear hk); (try clear hi)) | ((with_reducible refine gate_callee (f := 123) rfl ?_); refine goesL_ (some 21) rfl rfl Try.func123 KR rfl #[.pointer (some ⟨g518, 0, none⟩)] rfl AR ?_; (with_reducible refine (spec_l4Raw.calls g518 t515 t525 t526 t527 t528 t529 w _ ?side1 ?side2 A7.out).mono ?_); (case side1 => repeat (first | (with_reducible first | exact HI518.out | apply IsS158.alloc | apply IsS158.drewN | apply IsS158.drew | apply IsS158.set_1 | apply IsS158.set_2 | refine IsS158.far ?_ NB518_507.out _ | refine IsS158.far ?_ NB518_514.out _ | refine IsS158.far ?_ NB518_523.out _) | exact HI518.out)); (case side2 => repeat (first | (with_reducible first | exact HB.out | apply below_alloc | apply pw_below_drewN | apply below_drew1 | refine below_set ?_ (IsS158.ge HI518.out) | refine below_set ?_ GE507.out | refine below_set ?_ GE514.out | refine below_set ?_ GE523.out) | exact HB.out)); rintro e w25 ⟨rfl, hi, hb, hk⟩; refine ⟨_, rfl, ?_⟩; replace BK507 := kq hk BK507 NB507_518; replace HO510 := Sk (IsS158.apartS (show IsS158 w _ g518 t515 t525 t526 from by repeat (first | (with_reducible first | exact HI518.out | apply IsS158.alloc | apply IsS158.drewN | apply IsS158.drew | apply IsS158.set_1 | apply IsS158.set_2 | refine IsS158.far ?_ NB518_507.out _ | refine IsS158.far ?_ NB518_514.out _ | refine IsS158.far ?_ NB518_523.out _) | exact HI518.out)) (PS HO510) (by decide)) hk; replace BK514 := kq hk BK514 NB514_518; replace BK523 := kq hk BK523 NB523_518; replace HB := ak hb; replace HI518 := ak (hi); (try clear hb); (try clear hb2); (try clear hk); (try clear hi); obtain ⟨_, _, _, _, _, _, _, _⟩ := bc4 BK523))
  generalize hW_ : (w25.setCell ⟨gb523, 1, none⟩ (.int .i64 t527)) = w27
  replace HO510 : Aside0 (Kd.S k40 40 w27 w.heap.size (fun _ => True) (.slice Ao17 t508.length co17) t508) := ⟨by rw [← hW_]; exact SX (St HO510.out BK523) (fun _ hk => trivial)⟩
  replace BK507 := BE hW_ BK507; replace BK514 := BE hW_ BK514
  replace BK523 : Aside0 (w27.heap[gb523]? = some (.cells #[.int .i64 t519, .int .i64 t527, .int .i64 t521, .bool t522] 85 (0, 0))) := BP hW_ BK523
  replace HB : Aside0 (Below w.heap.size w w27) := ⟨by rw [← hW_]; repeat (first | (with_reducible first | exact HB.out | apply below_alloc | apply pw_below_drewN | apply below_drew1 | refine below_set ?_ (IsS158.ge HI518.out) | refine below_set ?_ GE507.out | refine below_set ?_ GE514.out | refine below_set ?_ GE523.out) | exact HB.out)⟩
  replace HI518 : Aside0 (IsS158 w w27 g518 t515 t528 t529) := ⟨by rw [← hW_]; repeat (first | (with_reducible first | exact HI518.out | apply IsS158.alloc | apply IsS158.drewN | apply IsS158.drew | apply IsS158.set_1 | apply IsS158.set_2 | refine IsS158.far ?_ NB518_507.out _ | refine IsS158.far ?_ NB518_514.out _ | refine IsS158.far ?_ NB518_523.out _) | exact HI518.out)⟩
  (try clear hW_); replace HO510 := ak (Kd.S_drew HO510.out); replace BK507 := ak (blk_drew BK507.out); replace BK514 := ak (blk_drew BK514.out); replace BK523 := ak (blk_drew BK523.out); replace HI518 := ak (IsS158.drew HI518.out); replace HB := ak (below_drew1 HB.out)
  refine start_ (n := 6) (S := fun w' => w'.cell? ⟨gb523, 0, none⟩ = some (.int .i64 t519) ∧ w'.cell? ⟨gb523, 1, none⟩ = some (.int .i64 t527) ∧ w'.cell? ⟨gb523, 2, none⟩ = some (.int .i64 t521) ∧ w'.cell? ⟨gb523, 3, none⟩ = some (.bool t522)) (ds := []) b15_2 KR rfl rfl ⟨bq15 BK523 0, bq15 BK523 1, bq15 BK523 2, bq15 BK523 3⟩ (fun hHeld => ?_)
  generalize w27.drew = w28 at HO510 BK507 BK514 BK523 HI518 HB hHeld ⊢
  refine pure_ (i := 1) (N := some 24) (v := ?_) (a' := ?_) b15_1 rfl rfl KR (fun _ _ _ h => h) (Or.inl ⟨by rfl, ?_⟩) ?_ ?_
  rotate_left
  ·intro w'
   go_simp
   with_reducible rfl
  rotate_left
  ·simp only [Act.put, List.setIfInBounds_toArray, List.set_cons_zero, List.set_cons_succ, i64_w, i32_w]
   rfl
  refine take_ (i := 0) (N := some 23) (v := ?_) (a' := ?_) b15_0 rfl rfl KR (fun _ _ _ h => h) (Or.inl ⟨by rfl, ?_⟩) hHeld ?_ ?_
  rotate_left
  ·rintro w' ⟨s0, s1, s2, s3⟩
   go_simp
   with_reducible rfl
  rotate_left
  ·simp only [Act.put, List.setIfInBounds_toArray, List.set_cons_zero, List.set_cons_succ, i64_w, i32_w]
   rfl
  refine one_ (i := 2) (N := some 25) #[true, true, true, false, false, false] rfl rfl KR (by decide) (fun K hK => ?_)
  refine Kd.R_lit_step (Kd.int .i64) _ 3 ?hg (N := 25) ?hd (xs := ([0, 1, 3, 99, 100, (-1)] : List Int)) (inner := [.int .i64 0, .int .i64 1, .int .i64 3, .int .i64 99, .int .i64 100, .int .i64 (-1)]) (ok := fun _ => True) (okp := fun _ => True) ?hr ?hp (fun _ hk => hk) trivial (Below.refl _ _) (Nat.le_refl _) (by simp) ?_; (case hd => rfl); (case hg => rfl); (case hr => first | (go_simp; done) | (go_simp; rfl)); (case hp => exact (Reps.one (show Kd.M (Kd.int .i64) _ _ _ 0 [.int .i64 0] from rfl) (Reps.one (show Kd.M (Kd.int .i64) _ _ _ 1 [.int .i64 1] from rfl) (Reps.one (show Kd.M (Kd.int .i64) _ _ _ 3 [.int .i64 3] from rfl) (Reps.one (show Kd.M (Kd.int .i64) _ _ _ 99 [.int .i64 99] from rfl) (Reps.one (show Kd.M (Kd.int .i64) _ _ _ 100 [.int .i64 100] from rfl) (Reps.one (show Kd.M (Kd.int .i64) _ _ _ (-1) [.int .i64 (-1)] from rfl) (Reps.none _ _))))))))
  intro v531 w29 ho30 hb hg_ hnew_
  clear hg_ hnew_
  (first | rw [← Ny530.out] at ho30 | (simp only [Int.reduceToNat] at ho30; rw [← Ny530.out] at ho30))
  replace HO510 := ak (Kd.S_elder' (PS HO510) (Kd.R_base ho30) hb)
  have HO532 := ak (Kd.R_lower ho30 (below_size (by repeat (first | (with_reducible first | exact HB.out | apply below_alloc | apply pw_below_drewN | apply below_drew1 | refine below_set ?_ (IsS158.ge HI518.out) | refine below_set ?_ GE507.out | refine below_set ?_ GE514.out | refine below_set ?_ GE523.out) | exact HB.out))))
  replace BK507 := kf BK507 hb; replace BK514 := kf BK514 hb; replace BK523 := kf BK523 hb
  replace HB := ak (below_step (by repeat (first | (with_reducible first | exact HB.out | apply below_alloc | apply pw_below_drewN | apply below_drew1 | refine below_set ?_ (IsS158.ge HI518.out) | refine below_set ?_ GE507.out | refine below_set ?_ GE514.out | refine below_set ?_ GE523.out) | exact HB.out)) hb)
  replace HI518 := ak (IsS158.below (by repeat (first | (with_reducible first | exact HI518.out | apply IsS158.alloc | apply IsS158.drewN | apply IsS158.drew | apply IsS158.set_1 | apply IsS158.set_2 | refine IsS158.far ?_ NB518_507.out _ | refine IsS158.far ?_ NB518_514.out _ | refine IsS158.far ?_ NB518_523.out _) | exact HI518.out)) hb)
  clear hb ho30
  obtain ⟨Ao31, co31, eo31⟩ := Kd.R_slice HO532.out
  (first | subst eo31 | (injection eo31 with f1_ f2_ f3_; have f4_ := f1_.symm; have f5_ := f3_.symm; clear f1_ f2_ f3_; subst f4_; subst f5_))
  refine hK.out _ _ ⟨bq15 BK523 0, bq15 BK523 1, bq15 BK523 2, bq15 BK523 3⟩ (fun hHeld => ?_)
  clear hK K
  refine norm_ (a' := ?_) ?_ ?_
  rotate_left
  ·show Act.put _ (some 25) _ = _
   simp only [Act.put, List.setIfInBounds_toArray, List.set_cons_zero, List.set_cons_succ, i64_w, i32_w]
   rfl
  refine one_ (i := 3) (N := some 26) #[true, true, true, true, false, false] rfl rfl KR (by decide) (fun K hK => ?_)
  refine goes_ Try.func67 KR rfl #[.pointer (some ⟨g518, 0, none⟩), .slice Ao31 y530.length co31] (by rfl) rfl rfl AR ?_
  with_reducible refine (spec_l1Int.calls g518 t515 t528 t529 _ _ y530 t533 t534 t535 w _ ?side1 ?side2 ?side3 ?side4 ?side5 A8.out).mono ?_
  (case side1 => repeat (first | (with_reducible first | exact HI518.out | apply IsS158.alloc | apply IsS158.drewN | apply IsS158.drew | apply IsS158.set_1 | apply IsS158.set_2 | refine IsS158.far ?_ NB518_507.out _ | refine IsS158.far ?_ NB518_514.out _ | refine IsS158.far ?_ NB518_523.out _) | exact HI518.out))
  (case side2 => repeat (first | (with_reducible first | exact HB.out | apply below_alloc | apply pw_below_drewN | apply below_drew1 | refine below_set ?_ (IsS158.ge HI518.out) | refine below_set ?_ GE507.out | refine below_set ?_ GE514.out | refine below_set ?_ GE523.out) | exact HB.out))
  (case side3 => exact CR ((Kd.R_reads' HO532.out).2.2))
  (case side4 => exact (Kd.R_reads' HO532.out).2.1)
  (case side5 => exact far_slice (IsS158.own_ne HI518.out HO532.out (by decide)))
  rintro e w32 ⟨rfl, hi, hb, hk⟩
  refine ⟨_, rfl, ?_⟩; replace BK507 := kq hk BK507 NB507_518
  replace HO510 := Sk (IsS158.apartS (show IsS158 w _ g518 t515 t528 t529 from by repeat (first | (with_reducible first | exact HI518.out | apply IsS158.alloc | apply IsS158.drewN | apply IsS158.drew | apply IsS158.set_1 | apply IsS158.set_2 | refine IsS158.far ?_ NB518_507.out _ | refine IsS158.far ?_ NB518_514.out _ | refine IsS158.far ?_ NB518_523.out _) | exact HI518.out)) (PS HO510) (by decide)) hk
  replace BK514 := kq hk BK514 NB514_518; replace BK523 := kq hk BK523 NB523_518
  replace HO532 := Rk (IsS158.apart (show IsS158 w _ g518 t515 t528 t529 from by repeat (first | (with_reducible first | exact HI518.out | apply IsS158.alloc | apply IsS158.drewN | apply IsS158.drew | apply IsS158.set_1 | apply IsS158.set_2 | refine IsS158.far ?_ NB518_507.out _ | refine IsS158.far ?_ NB518_514.out _ | refine IsS158.far ?_ NB518_523.out _) | exact HI518.out)) (PR HO532) (by decide)) hk
  replace HB := ak hb; replace HI518 := ak (hi)
  (try clear hb); (try clear hb2); (try clear hk); (try clear hi)
  refine hK.out _ _ ⟨bq15 BK523 0, bq15 BK523 1, bq15 BK523 2, bq15 BK523 3⟩ (fun hHeld => ?_)
  clear hK K
  refine norm_ (a' := ?_) ?_ ?_
  rotate_left
  ·show Act.put _ (some 26) _ = _
   simp only [Act.put, List.setIfInBounds_toArray, List.set_cons_zero, List.set_cons_succ, i64_w, i32_w]
   rfl
  refine one_ (i := 4) (N := none) #[true, true, true, true, true, false] rfl rfl KR (by decide) (fun K hK => ?_)
  have hs33 : w32.cell? ⟨gb507, 0, none⟩ = some (.int .i64 0) := bq15 BK507 0
  have hfs33 := blk_frozen BK507.out 0; have hns33_1 := NB514_507.out; have hns33_2 := NB523_507.out; have hms33_1 := NB507_514.out; have hms33_2 := NB507_523.out
  have hs34 : w32.cell? ⟨gb507, 1, none⟩ = some (.int .i64 0) := bq15 BK507 1
  have hfs34 := blk_frozen BK507.out 1; have hns34_1 := NB514_507.out; have hns34_2 := NB523_507.out; have hms34_1 := NB507_514.out; have hms34_2 := NB507_523.out
  have hs35 : w32.cell? ⟨gb507, 2, none⟩ = some (.int .i64 0) := bq15 BK507 2
  have hfs35 := blk_frozen BK507.out 2; have hns35_1 := NB514_507.out; have hns35_2 := NB523_507.out; have hms35_1 := NB507_514.out; have hms35_2 := NB507_523.out
  have hs36 : w32.cell? ⟨gb507, 3, none⟩ = some (.bool false) := bq15 BK507 3
  have hfs36 := blk_frozen BK507.out 3; have hns36_1 := NB514_507.out; have hns36_2 := NB523_507.out; have hms36_1 := NB507_514.out; have hms36_2 := NB507_523.out
  refine skip_ (w1 := ?_) (by rfl) rfl ?_ ?_
  rotate_left
  ·go_simp
   rfl
  refine hK.out _ _ ⟨((cell_far (p := ⟨gb507, _, none⟩) NB523_507.out _).trans (((cell_far (p := ⟨gb507, _, none⟩) NB523_507.out _).trans (((cell_far (p := ⟨gb507, _, none⟩) NB523_507.out _).trans (((cell_far (p := ⟨gb507, _, none⟩) NB523_507.out _).trans (hHeld.1)))))))), ((cell_far (p := ⟨gb507, _, none⟩) NB523_507.out _).trans (((cell_far (p := ⟨gb507, _, none⟩) NB523_507.out _).trans (((cell_far (p := ⟨gb507, _, none⟩) NB523_507.out _).trans (((cell_far (p := ⟨gb507, _, none⟩) NB523_507.out _).trans (hHeld.2.1)))))))), ((cell_far (p := ⟨gb507, _, none⟩) NB523_507.out _).trans (((cell_far (p := ⟨gb507, _, none⟩) NB523_507.out _).trans (((cell_far (p := ⟨gb507, _, none⟩) NB523_507.out _).trans (((cell_far (p := ⟨gb507, _, none⟩) NB523_507.out _).trans (hHeld.2.2.1)))))))), ((cell_far (p := ⟨gb507, _, none⟩) NB523_507.out _).trans (((cell_far (p := ⟨gb507, _, none⟩) NB523_507.out _).trans (((cell_far (p := ⟨gb507, _, none⟩) NB523_507.out _).trans (((cell_far (p := ⟨gb507, _, none⟩) NB523_507.out _).trans (hHeld.2.2.2))))))))⟩ (fun hHeld => ?_)
  clear hK K
  refine pure_ (i := 5) (N := some 3) (v := ?_) (a' := ?_) #[true, true, true, true, true, true] rfl rfl KR (fun _ _ _ h => h) (Or.inl ⟨by rfl, ?_⟩) ?_ ?_
  rotate_left
  ·intro w'
   go_simp
   with_reducible rfl
  rotate_left
  ·simp only [Act.put, List.setIfInBounds_toArray, List.set_cons_zero, List.set_cons_succ, i64_w, i32_w]
   rfl
  refine done_ KR ?_
  try go_wp2
  refine bodyPost_ret (results_ct rfl _ _ gb507 85 #[.int .i64 t519, .int .i64 t527, .int .i64 t521, .bool t522] (0, 0) _ rfl (PX BK507) Try.underlying85 rfl KR) rfl ?_
  exact ⟨RT, by repeat (first | (with_reducible first | exact HB.out | apply below_alloc | apply pw_below_drewN | apply below_drew1 | refine below_set ?_ (IsS158.ge HI518.out) | refine below_set ?_ GE507.out | refine below_set ?_ GE514.out | refine below_set ?_ GE523.out) | exact HB.out)⟩
 ·replace c6 := Bool.eq_false_iff.mpr c6
  subst c6
  have H1 : ((spec_l1Int.f t515 t525 t526 (([0, 1, 3, 99, 100, (-1)] : List Int))).bind fun bt539 => (some (t519, t520, t521, t522, bt539.1))) = some (r1, r2, r3, r4, r5) := by rw [if_neg (show ¬ (false = true) by decide)] at H; exact H
  clear H; have H := H1; clear H1
  obtain ⟨y536, hy536⟩ : ∃ y_ : List Int, y_ = (([0, 1, 3, 99, 100, (-1)] : List Int)) := ⟨_, rfl⟩
  replace H : ((spec_l1Int.f t515 t525 t526 y536).bind fun bt539 => (some (t519, t520, t521, t522, bt539.1))) = some (r1, r2, r3, r4, r5) := by first | (rw [hy536]; with_reducible exact H) | (have H2_ := (Option.bind_some _ _).symm.trans H; rw [hy536]; with_reducible exact H2_) | (have H2_ := (Option.bind_some _ _).symm.trans H; with_reducible exact H2_) | with_reducible exact H | (rw [hy536]; exact H) | exact H
  have Ny536 := Aside0.mk hy536; clear hy536; replace H := Option.bind_eq_some_iff.mp H
  obtain ⟨⟨t539, t540, t541⟩, A370, H⟩ := H
  replace H : (some (t519, t520, t521, t522, t539)) = some (r1, r2, r3, r4, r5) := H
  have A37 := Aside0.mk A370; clear A370
  simp only [Option.some.injEq, Prod.mk.injEq] at H
  obtain ⟨rfl, rfl, rfl, rfl, rfl⟩ := H
  go_enter Try.func60, Try.ntmps60
  try go_wp2_with (first | ((with_reducible refine gate_dst (N := 2) rfl ?_); refine bx_ (N := 2) #[.int .i64 0, .int .i64 0, .int .i64 0, .bool false] 85 ?_; intro gb507 hg w38 hbox hb; have BK507 := ak hbox; have GW507 := gy hg HB; have GE507 := gy hg HB; replace HB := bs HB hb; clear hb hbox hg) | ((with_reducible refine gate_callee (f := 54) rfl ?_); refine goesL_ (some 10) rfl rfl Try.func54 KR rfl #[.slice A0 l0.length c0] rfl AR ?_; (with_reducible refine (spec_DrawLearnForm.calls k _ _ l0 t508 t511 t512 t513 _ ?side1 ?side2 A2.out).mono ?_); (case side1 => exact CR (Kd.C_below HR0.out HB.out)); (case side2 => exact HC0.out); rintro e w39 ⟨v509, rfl, ho0, hb⟩; refine ⟨_, rfl, ?_⟩; have HO510 := ak (Kd.S_lower ho0 (below_size PB)); replace BK507 := kf BK507 hb; replace HB := bs HB hb; (try clear hb); (try clear hb2); (try clear hk); (try clear hi); (try clear ho0)) | ((with_reducible refine gate_dst (N := 5) rfl ?_); refine bx_ (N := 5) #[.int .i64 0, .int .i64 0, .int .i64 0] 26 ?_; intro gb514 hg w40 hbox hb; replace HO510 := Sb HO510 hb; have BK514 := ak hbox; have GW514 := gy hg HB; have GE514 := gy hg HB; replace HB := bs HB hb; have NB507_514 := gm hg BK507; have NB514_507 := gn hg BK507; replace BK507 := kf BK507 hb; clear hb hbox hg; have hnb41 := NB514_507.out; have hnc41 := NB507_514.out; obtain ⟨_, _, _, _, _, _⟩ := bc3 BK514) | ((with_reducible refine gate_callee (f := 66) rfl ?_); refine goesL_ (some 14) rfl rfl Try.func66 KR rfl #[.slice A0 l0.length c0] rfl AR ?_; (with_reducible refine (spec_l1New.calls k _ _ l0 t515 t516 t517 w _ ?side1 ?side2 ?side3 A3.out).mono ?_); (case side1 => exact PL); (case side2 => exact HR0.out); (case side3 => exact HC0.out); rintro e w43 ⟨g518, rfl, hi, hb, hb2⟩; refine ⟨_, rfl, ?_⟩; replace HO510 := ak (Kd.S_below (Se1 HO510 BK514) hb2); replace HB := ak hb; have HI518 := ak (hi); have NB518_507 := ak (IsS158.ne_blk hi (blk_below (g := gb507) (o := .cells #[.int .i64 0, .int .i64 0, .int .i64 0, .bool false] 85 (0, 0)) (PF BK507) hb2) (by decide)); have NB507_518 := ak (Ne.symm (IsS158.ne_blk hi (blk_below (g := gb507) (o := .cells #[.int .i64 0, .int .i64 0, .int .i64 0, .bool false] 85 (0, 0)) (PF BK507) hb2) (by decide))); replace BK507 := ak (blk_below (g := gb507) (o := .cells #[.int .i64 0, .int .i64 0, .int .i64 0, .bool false] 85 (0, 0)) (PF BK507) hb2); have NB518_514 := ak (IsS158.ne_blk hi (blk_below (g := gb514) (o := .cells #[.int .i64 t511, .int .i64 t512, .int .i64 t513] 26 (0, 0)) (PX BK514) hb2) (by decide)); have NB514_518 := ak (Ne.symm (IsS158.ne_blk hi (blk_below (g := gb514) (o := .cells #[.int .i64 t511, .int .i64 t512, .int .i64 t513] 26 (0, 0)) (PX BK514) hb2) (by decide))); replace BK514 := ak (blk_below (g := gb514) (o := .cells #[.int .i64 t511, .int .i64 t512, .int .i64 t513] 26 (0, 0)) (PX BK514) hb2); (try clear hb); (try clear hb2); (try clear hk); (try clear hi); have hnb44 := NB514_518.out; have hnc44 := NB518_514.out; obtain ⟨_, _, _, _, _, _⟩ := bc3 BK514; obtain ⟨Ao46, co46, eo46⟩ := Kd.S_slice HO510.out; subst eo46) | ((with_reducible refine gate_callee (f := 48) rfl ?_); refine goesL_ (some 17) rfl rfl Try.func48 KR rfl #[.slice Ao46 t508.length co46, .agg #[.int .i64 t511, .int .i64 t512, .int .i64 t513]] rfl AR ?_; (with_reducible refine (spec_LearnForm.calls k (fun k_ => (((True ∧ k_ ≠ gb507) ∧ k_ ≠ gb514) ∧ k_ ≠ g518)) _ _ t508 t511 t512 t513 t519 t520 t521 t522 _ ?side1 A4.out).mono ?_); (case side1 => exact Kd.S_V (IsS158.apartS HI518.out (Kd.S_types (Kd.S_types (HO510.out) BK507.out (by decide)) BK514.out (by decide)) (by decide))); rintro e w47 ⟨rfl, hb⟩; refine ⟨_, rfl, ?_⟩; replace HO510 := Sb HO510 hb; replace BK507 := kf BK507 hb; replace BK514 := kf BK514 hb; replace HB := ak (below_step (by repeat (first | (with_reducible first | exact HB.out | apply below_alloc | apply pw_below_drewN | apply below_drew1 | refine below_set ?_ (IsS158.ge HI518.out) | refine below_set ?_ GE507.out | refine below_set ?_ GE514.out) | exact HB.out)) hb); replace HI518 := ak (IsS158.below (by repeat (first | (with_reducible first | exact HI518.out | apply IsS158.alloc | apply IsS158.drewN | apply IsS158.drew | apply IsS158.set_1 | apply IsS158.set_2 | refine IsS158.far ?_ NB518_507.out _ | refine IsS158.far ?_ NB518_514.out _) | exact HI518.out)) hb); (try clear hb); (try clear hb2); (try clear hk); (try clear hi)) | ((with_reducible refine gate_dst (N := 7) rfl ?_); refine bx_ (N := 7) #[.int .i64 0, .int .i64 0, .int .i64 0, .bool false] 85 ?_; intro gb523 hg w48 hbox hb; replace HO510 := Sb HO510 hb; have BK523 := ak hbox; have GW523 := ak ((by rw [hg]; exact (below_size (by repeat (first | (with_reducible first | exact HB.out | apply below_alloc | apply pw_below_drewN | apply below_drew1 | refine below_set ?_ (IsS158.ge HI518.out) | refine below_set ?_ GE507.out | refine below_set ?_ GE514.out) | exact HB.out))) : w.heap.size ≤ gb523)); have GE523 := ak ((by rw [hg]; exact (below_size (by repeat (first | (with_reducible first | exact HB.out | apply below_alloc | apply pw_below_drewN | apply below_drew1 | refine below_set ?_ (IsS158.ge HI518.out) | refine below_set ?_ GE507.out | refine below_set ?_ GE514.out) | exact HB.out))) : w.heap.size ≤ gb523)); replace HB := ak (below_step (by repeat (first | (with_reducible first | exact HB.out | apply below_alloc | apply pw_below_drewN | apply below_drew1 | refine below_set ?_ (IsS158.ge HI518.out) | refine below_set ?_ GE507.out | refine below_set ?_ GE514.out) | exact HB.out)) hb); have NB507_523 := gm hg BK507; have NB523_507 := gn hg BK507; replace BK507 := kf BK507 hb; have NB514_523 := gm hg BK514; have NB523_514 := gn hg BK514; replace BK514 := kf BK514 hb; have NB518_523 := ak ((by rw [hg]; exact Nat.ne_of_lt (IsS158.lt (show IsS158 w _ g518 t515 t516 t517 from by repeat (first | (with_reducible first | exact HI518.out | apply IsS158.alloc | apply IsS158.drewN | apply IsS158.drew | apply IsS158.set_1 | apply IsS158.set_2 | refine IsS158.far ?_ NB518_507.out _ | refine IsS158.far ?_ NB518_514.out _) | exact HI518.out))) : g518 ≠ gb523)); have NB523_518 := ak ((by rw [hg]; exact Nat.ne_of_gt (IsS158.lt (show IsS158 w _ g518 t515 t516 t517 from by repeat (first | (with_reducible first | exact HI518.out | apply IsS158.alloc | apply IsS158.drewN | apply IsS158.drew | apply IsS158.set_1 | apply IsS158.set_2 | refine IsS158.far ?_ NB518_507.out _ | refine IsS158.far ?_ NB518_514.out _) | exact HI518.out))) : gb523 ≠ g518)); replace HI518 := ak (IsS158.below (by repeat (first | (with_reducible first | exact HI518.out | apply IsS158.alloc | apply IsS158.drewN | apply IsS158.drew | apply IsS158.set_1 | apply IsS158.set_2 | refine IsS158.far ?_ NB518_507.out _ | refine IsS158.far ?_ NB518_514.out _) | exact HI518.out)) hb); clear hb hbox hg; have hnb49 := NB523_507.out; have hnc49 := NB507_523.out; have hnb50 := NB523_514.out; have hnc50 := NB514_523.out; have hnb51 := NB523_518.out; have hnc51 := NB518_523.out; obtain ⟨_, _, _, _, _, _, _, _⟩ := bc4 BK523) | ((with_reducible refine gate_callee (f := 119) rfl ?_); refine goesL_ (some 19) rfl rfl Try.func119 KR rfl #[.pointer (some ⟨g518, 0, none⟩), .int .i64 8] rfl AR ?_; (with_reducible refine (spec_l1Once.calls g518 t515 t516 t517 8 false t525 t526 w _ ?side1 ?side2 A5.out).mono ?_); (case side1 => repeat (first | (with_reducible first | exact HI518.out | apply IsS158.alloc | apply IsS158.drewN | apply IsS158.drew | apply IsS158.set_1 | apply IsS158.set_2 | refine IsS158.far ?_ NB518_507.out _ | refine IsS158.far ?_ NB518_514.out _ | refine IsS158.far ?_ NB518_523.out _) | exact HI518.out)); (case side2 => repeat (first | (with_reducible first | exact HB.out | apply below_alloc | apply pw_below_drewN | apply below_drew1 | refine below_set ?_ (IsS158.ge HI518.out) | refine below_set ?_ GE507.out | refine below_set ?_ GE514.out | refine below_set ?_ GE523.out) | exact HB.out)); rintro e w53 ⟨rfl, hi, hb, hk⟩; refine ⟨_, rfl, ?_⟩; replace BK507 := kq hk BK507 NB507_518; replace HO510 := Sk (IsS158.apartS (show IsS158 w _ g518 t515 t516 t517 from by repeat (first | (with_reducible first | exact HI518.out | apply IsS158.alloc | apply IsS158.drewN | apply IsS158.drew | apply IsS158.set_1 | apply IsS158.set_2 | refine IsS158.far ?_ NB518_507.out _ | refine IsS158.far ?_ NB518_514.out _ | refine IsS158.far ?_ NB518_523.out _) | exact HI518.out)) (Se1 HO510 BK523) (by decide)) hk; replace BK514 := kq hk BK514 NB514_518; replace BK523 := kr (cs' := #[.int .i64 t519, .int .i64 t520, .int .i64 t521, .bool t522]) hk BK523 NB523_518; replace HB := ak hb; replace HI518 := ak (hi); (try clear hb); (try clear hb2); (try clear hk); (try clear hi)))
  replace HO510 := ak (Kd.S_drew HO510.out); replace BK507 := ak (blk_drew BK507.out); replace BK514 := ak (blk_drew BK514.out); replace BK523 := ak (blk_drew BK523.out); replace HI518 := ak (IsS158.drew HI518.out); replace HB := ak (below_drew1 HB.out)
  refine start_ (n := 6) (S := fun w' => w'.cell? ⟨gb523, 0, none⟩ = some (.int .i64 t519) ∧ w'.cell? ⟨gb523, 1, none⟩ = some (.int .i64 t520) ∧ w'.cell? ⟨gb523, 2, none⟩ = some (.int .i64 t521) ∧ w'.cell? ⟨gb523, 3, none⟩ = some (.bool t522)) (ds := []) b15_2 KR rfl rfl ⟨bq15 BK523 0, bq15 BK523 1, bq15 BK523 2, bq15 BK523 3⟩ (fun hHeld => ?_)
  generalize w53.drew = w54 at HO510 BK507 BK514 BK523 HI518 HB hHeld ⊢
  refine pure_ (i := 1) (N := some 24) (v := ?_) (a' := ?_) b15_1 rfl rfl KR (fun _ _ _ h => h) (Or.inl ⟨by rfl, ?_⟩) ?_ ?_
  rotate_left
  ·intro w'
   go_simp
   with_reducible rfl
  rotate_left
  ·simp only [Act.put, List.setIfInBounds_toArray, List.set_cons_zero, List.set_cons_succ, i64_w, i32_w]
   rfl
  refine take_ (i := 0) (N := some 23) (v := ?_) (a' := ?_) b15_0 rfl rfl KR (fun _ _ _ h => h) (Or.inl ⟨by rfl, ?_⟩) hHeld ?_ ?_
  rotate_left
  ·rintro w' ⟨s0, s1, s2, s3⟩
   go_simp
   with_reducible rfl
  rotate_left
  ·simp only [Act.put, List.setIfInBounds_toArray, List.set_cons_zero, List.set_cons_succ, i64_w, i32_w]
   rfl
  refine one_ (i := 2) (N := some 25) #[true, true, true, false, false, false] rfl rfl KR (by decide) (fun K hK => ?_)
  refine Kd.R_lit_step (Kd.int .i64) _ 3 ?hg (N := 25) ?hd (xs := ([0, 1, 3, 99, 100, (-1)] : List Int)) (inner := [.int .i64 0, .int .i64 1, .int .i64 3, .int .i64 99, .int .i64 100, .int .i64 (-1)]) (ok := fun _ => True) (okp := fun _ => True) ?hr ?hp (fun _ hk => hk) trivial (Below.refl _ _) (Nat.le_refl _) (by simp) ?_; (case hd => rfl); (case hg => rfl); (case hr => first | (go_simp; done) | (go_simp; rfl)); (case hp => exact (Reps.one (show Kd.M (Kd.int .i64) _ _ _ 0 [.int .i64 0] from rfl) (Reps.one (show Kd.M (Kd.int .i64) _ _ _ 1 [.int .i64 1] from rfl) (Reps.one (show Kd.M (Kd.int .i64) _ _ _ 3 [.int .i64 3] from rfl) (Reps.one (show Kd.M (Kd.int .i64) _ _ _ 99 [.int .i64 99] from rfl) (Reps.one (show Kd.M (Kd.int .i64) _ _ _ 100 [.int .i64 100] from rfl) (Reps.one (show Kd.M (Kd.int .i64) _ _ _ (-1) [.int .i64 (-1)] from rfl) (Reps.none _ _))))))))
  intro v537 w55 ho56 hb hg_ hnew_
  clear hg_ hnew_
  (first | rw [← Ny536.out] at ho56 | (simp only [Int.reduceToNat] at ho56; rw [← Ny536.out] at ho56))
  replace HO510 := ak (Kd.S_elder' (PS HO510) (Kd.R_base ho56) hb)
  have HO538 := ak (Kd.R_lower ho56 (below_size (by repeat (first | (with_reducible first | exact HB.out | apply below_alloc | apply pw_below_drewN | apply below_drew1 | refine below_set ?_ (IsS158.ge HI518.out) | refine below_set ?_ GE507.out | refine below_set ?_ GE514.out | refine below_set ?_ GE523.out) | exact HB.out))))
  replace BK507 := kf BK507 hb; replace BK514 := kf BK514 hb; replace BK523 := kf BK523 hb
  replace HB := ak (below_step (by repeat (first | (with_reducible first | exact HB.out | apply below_alloc | apply pw_below_drewN | apply below_drew1 | refine below_set ?_ (IsS158.ge HI518.out) | refine below_set ?_ GE507.out | refine below_set ?_ GE514.out | refine below_set ?_ GE523.out) | exact HB.out)) hb)
  replace HI518 := ak (IsS158.below (by repeat (first | (with_reducible first | exact HI518.out | apply IsS158.alloc | apply IsS158.drewN | apply IsS158.drew | apply IsS158.set_1 | apply IsS158.set_2 | refine IsS158.far ?_ NB518_507.out _ | refine IsS158.far ?_ NB518_514.out _ | refine IsS158.far ?_ NB518_523.out _) | exact HI518.out)) hb)
  clear hb ho56
  obtain ⟨Ao57, co57, eo57⟩ := Kd.R_slice HO538.out
  (first | subst eo57 | (injection eo57 with f1_ f2_ f3_; have f4_ := f1_.symm; have f5_ := f3_.symm; clear f1_ f2_ f3_; subst f4_; subst f5_))
  refine hK.out _ _ ⟨bq15 BK523 0, bq15 BK523 1, bq15 BK523 2, bq15 BK523 3⟩ (fun hHeld => ?_)
  clear hK K
  refine norm_ (a' := ?_) ?_ ?_
  rotate_left
  ·show Act.put _ (some 25) _ = _
   simp only [Act.put, List.setIfInBounds_toArray, List.set_cons_zero, List.set_cons_succ, i64_w, i32_w]
   rfl
  refine one_ (i := 3) (N := some 26) #[true, true, true, true, false, false] rfl rfl KR (by decide) (fun K hK => ?_)
  refine goes_ Try.func67 KR rfl #[.pointer (some ⟨g518, 0, none⟩), .slice Ao57 y536.length co57] (by rfl) rfl rfl AR ?_
  with_reducible refine (spec_l1Int.calls g518 t515 t525 t526 _ _ y536 t539 t540 t541 w _ ?side1 ?side2 ?side3 ?side4 ?side5 A37.out).mono ?_
  (case side1 => repeat (first | (with_reducible first | exact HI518.out | apply IsS158.alloc | apply IsS158.drewN | apply IsS158.drew | apply IsS158.set_1 | apply IsS158.set_2 | refine IsS158.far ?_ NB518_507.out _ | refine IsS158.far ?_ NB518_514.out _ | refine IsS158.far ?_ NB518_523.out _) | exact HI518.out))
  (case side2 => repeat (first | (with_reducible first | exact HB.out | apply below_alloc | apply pw_below_drewN | apply below_drew1 | refine below_set ?_ (IsS158.ge HI518.out) | refine below_set ?_ GE507.out | refine below_set ?_ GE514.out | refine below_set ?_ GE523.out) | exact HB.out))
  (case side3 => exact CR ((Kd.R_reads' HO538.out).2.2))
  (case side4 => exact (Kd.R_reads' HO538.out).2.1)
  (case side5 => exact far_slice (IsS158.own_ne HI518.out HO538.out (by decide)))
  rintro e w58 ⟨rfl, hi, hb, hk⟩
  refine ⟨_, rfl, ?_⟩; replace BK507 := kq hk BK507 NB507_518
  replace HO510 := Sk (IsS158.apartS (show IsS158 w _ g518 t515 t525 t526 from by repeat (first | (with_reducible first | exact HI518.out | apply IsS158.alloc | apply IsS158.drewN | apply IsS158.drew | apply IsS158.set_1 | apply IsS158.set_2 | refine IsS158.far ?_ NB518_507.out _ | refine IsS158.far ?_ NB518_514.out _ | refine IsS158.far ?_ NB518_523.out _) | exact HI518.out)) (PS HO510) (by decide)) hk
  replace BK514 := kq hk BK514 NB514_518; replace BK523 := kq hk BK523 NB523_518
  replace HO538 := Rk (IsS158.apart (show IsS158 w _ g518 t515 t525 t526 from by repeat (first | (with_reducible first | exact HI518.out | apply IsS158.alloc | apply IsS158.drewN | apply IsS158.drew | apply IsS158.set_1 | apply IsS158.set_2 | refine IsS158.far ?_ NB518_507.out _ | refine IsS158.far ?_ NB518_514.out _ | refine IsS158.far ?_ NB518_523.out _) | exact HI518.out)) (PR HO538) (by decide)) hk
  replace HB := ak hb; replace HI518 := ak (hi)
  (try clear hb); (try clear hb2); (try clear hk); (try clear hi)
  refine hK.out _ _ ⟨bq15 BK523 0, bq15 BK523 1, bq15 BK523 2, bq15 BK523 3⟩ (fun hHeld => ?_)
  clear hK K
  refine norm_ (a' := ?_) ?_ ?_
  rotate_left
  ·show Act.put _ (some 26) _ = _
   simp only [Act.put, List.setIfInBounds_toArray, List.set_cons_zero, List.set_cons_succ, i64_w, i32_w]
   rfl
  refine one_ (i := 4) (N := none) #[true, true, true, true, true, false] rfl rfl KR (by decide) (fun K hK => ?_)
  have hs59 : w58.cell? ⟨gb507, 0, none⟩ = some (.int .i64 0) := bq15 BK507 0
  have hfs59 := blk_frozen BK507.out 0; have hns59_1 := NB514_507.out; have hns59_2 := NB523_507.out; have hms59_1 := NB507_514.out; have hms59_2 := NB507_523.out
  have hs60 : w58.cell? ⟨gb507, 1, none⟩ = some (.int .i64 0) := bq15 BK507 1
  have hfs60 := blk_frozen BK507.out 1; have hns60_1 := NB514_507.out; have hns60_2 := NB523_507.out; have hms60_1 := NB507_514.out; have hms60_2 := NB507_523.out
  have hs61 : w58.cell? ⟨gb507, 2, none⟩ = some (.int .i64 0) := bq15 BK507 2
  have hfs61 := blk_frozen BK507.out 2; have hns61_1 := NB514_507.out; have hns61_2 := NB523_507.out; have hms61_1 := NB507_514.out; have hms61_2 := NB507_523.out
  have hs62 : w58.cell? ⟨gb507, 3, none⟩ = some (.bool false) := bq15 BK507 3
  have hfs62 := blk_frozen BK507.out 3; have hns62_1 := NB514_507.out; have hns62_2 := NB523_507.out; have hms62_1 := NB507_514.out; have hms62_2 := NB507_523.out
  refine skip_ (w1 := ?_) (by rfl) rfl ?_ ?_
  rotate_left
  ·go_simp
   rfl
  refine hK.out _ _ ⟨((cell_far (p := ⟨gb507, _, none⟩) NB523_507.out _).trans (((cell_far (p := ⟨gb507, _, none⟩) NB523_507.out _).trans (((cell_far (p := ⟨gb507, _, none⟩) NB523_507.out _).trans (((cell_far (p := ⟨gb507, _, none⟩) NB523_507.out _).trans (hHeld.1)))))))), ((cell_far (p := ⟨gb507, _, none⟩) NB523_507.out _).trans (((cell_far (p := ⟨gb507, _, none⟩) NB523_507.out _).trans (((cell_far (p := ⟨gb507, _, none⟩) NB523_507.out _).trans (((cell_far (p := ⟨gb507, _, none⟩) NB523_507.out _).trans (hHeld.2.1)))))))), ((cell_far (p := ⟨gb507, _, none⟩) NB523_507.out _).trans (((cell_far (p := ⟨gb507, _, none⟩) NB523_507.out _).trans (((cell_far (p := ⟨gb507, _, none⟩) NB523_507.out _).trans (((cell_far (p := ⟨gb507, _, none⟩) NB523_507.out _).trans (hHeld.2.2.1)))))))), ((cell_far (p := ⟨gb507, _, none⟩) NB523_507.out _).trans (((cell_far (p := ⟨gb507, _, none⟩) NB523_507.out _).trans (((cell_far (p := ⟨gb507, _, none⟩) NB523_507.out _).trans (((cell_far (p := ⟨gb507, _, none⟩) NB523_507.out _).trans (hHeld.2.2.2))))))))⟩ (fun hHeld => ?_)
  clear hK K
  refine pure_ (i := 5) (N := some 3) (v := ?_) (a' := ?_) #[true, true, true, true, true, true] rfl rfl KR (fun _ _ _ h => h) (Or.inl ⟨by rfl, ?_⟩) ?_ ?_
  rotate_left
  ·intro w'
   go_simp
   with_reducible rfl
  rotate_left
  ·simp only [Act.put, List.setIfInBounds_toArray, List.set_cons_zero, List.set_cons_succ, i64_w, i32_w]
   rfl
  refine done_ KR ?_
  try go_wp2
  refine bodyPost_ret (results_ct rfl _ _ gb507 85 #[.int .i64 t519, .int .i64 t520, .int .i64 t521, .bool t522] (0, 0) _ rfl (PX BK507) Try.underlying85 rfl KR) rfl ?_
  exact ⟨RT, by repeat (first | (with_reducible first | exact HB.out | apply below_alloc | apply pw_below_drewN | apply below_drew1 | refine below_set ?_ (IsS158.ge HI518.out) | refine below_set ?_ GE507.out | refine below_set ?_ GE514.out | refine below_set ?_ GE523.out) | exact HB.out)⟩

end Go.Proofs.Ytgcamebeonodeaa.MFnForms
