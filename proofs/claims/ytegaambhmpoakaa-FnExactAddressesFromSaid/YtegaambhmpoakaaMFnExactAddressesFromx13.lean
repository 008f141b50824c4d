-- Written by a program of this session out of the translation's own print. Not trusted: Lean checks it.
import Derived.Test.YtegaambhmpoakaaMFnExactAddressesFromx0
import Derived.Test.YtegaambhmpoakaaMFnExactAddressesFromx3
import Derived.Test.YtegaambhmpoakaaMFnExactAddressesFromx4
import Derived.Test.YtegaambhmpoakaaMFnExactAddressesFromx7
import Derived.Test.YtegaambhmpoakaaMFnExactAddressesFromx9
import Derived.Test.YtegaambhmpoakaaMFnExactAddressesFromx10
import Derived.Test.YtegaambhmpoakaaMFnExactAddressesFromx11
import Derived.Test.YtegaambhmpoakaaMFnExactAddressesFromx12
namespace Go.Proofs.Ytegaambhmpoakaa.MFnExactAddressesFrom
open Go.RowKit Go.Proofs.YtegaambhmpoakaaW.PrintWords Go.Proofs.YtegaambhmpoakaaW.PrintLast Go.Proofs.YtegaambhmpoakaaW.PrintMore
attribute [local go_sem] max2_int min2_int max_two min_two max_three min_three max_four min_four   -- for this text's walks alone
set_option linter.unusedVariables false
set_option linter.unusedSimpArgs false

/-! ### laws_FnExactAddressesFrom: function 12 -/
def laws_FnExactAddressesFrom.j0 : Nat → Int → List (S31) → List (S31) → Bool → List (S175) → Int → Int → List Int → Int → Int → Int → Int → Option (Bool)
  | 0, _, _, _, _, _, _, _, _, _, _, _, _ => none
  | k + 1, x2, x8, x10, x52, x407000, x407001, x407002, x407003, x408000, x408001, x408002, x408003 => if x52 = true then (some false) else ((laws_markAddressS.f k x10 1).bind fun bt453 => ((laws_heldAddressS.f k bt453.2 1).bind fun t455 => (if t455 < 0 then (some false) else (if t455 = bt453.1 then ((laws_toVisit.f k x407000 x407001 x407002 x407003).bind fun bt456 => ((laws_toWant.f x408000 x408001 x408002 x408003).bind fun bt464 => ((impl_AddressesFrom.f k bt456.1 bt456.2.1 bt456.2.2.1 bt456.2.2.2 bt464.1 bt464.2.1 bt464.2.2.1 bt464.2.2.2 x2).bind fun t468 => ((laws_eqAddressS.f k t468 x8).bind fun t471 => (if t471 = true then ((laws_heldAddressS.f k bt453.2 1).bind fun t472 => (if t472 < 0 then (some false) else (if t472 = bt453.1 then (some true) else (some false)))) else (some false)))))) else (some false)))))
def laws_FnExactAddressesFrom.f (k : Nat) (l0_0 : List (S175)) (a0_1 : Int) (a0_2 : Int) (l0_3 : List Int) (a1_0 : Int) (a1_1 : Int) (a1_2 : Int) (a1_3 : Int) (a2 : Int) : Option (Bool) := (laws_szVisit.f k l0_0 a0_1 a0_2 l0_3 1048576).bind fun t408 => (if t408 < 0 then (some true) else ((laws_toVisit.f k l0_0 a0_1 a0_2 l0_3).bind fun bt409 => ((laws_toWant.f a1_0 a1_1 a1_2 a1_3).bind fun bt417 => ((spec_AddressesFrom.f k bt409.1 bt409.2.1 bt409.2.2.1 bt409.2.2.2 bt417.1 bt417.2.1 bt417.2.2.1 bt417.2.2.2 a2).bind fun t421 => ((laws_toVisit.f k l0_0 a0_1 a0_2 l0_3).bind fun bt424 => ((laws_toWant.f a1_0 a1_1 a1_2 a1_3).bind fun bt433 => ((impl_AddressesFrom.f k bt424.1 bt424.2.1 bt424.2.2.1 bt424.2.2.2 bt433.1 bt433.2.1 bt433.2.2.1 bt433.2.2.2 a2).bind fun t437 => ((laws_eqAddressS.f k t437 t421).bind fun t440 => (if t440 = true then ((laws_toVisit.f k l0_0 a0_1 a0_2 l0_3).bind fun bt441 => ((laws_eqVisit.f k bt424.1 bt424.2.1 bt424.2.2.1 bt424.2.2.2 bt441.1 bt441.2.1 bt441.2.2.1 bt441.2.2.2).bind fun t449 => (if t449 = true then ((laws_markVisit.f k bt424.1 bt424.2.1 bt424.2.2.1 bt424.2.2.2 1).bind fun bt450 => (if bt450.1 < 0 then (laws_FnExactAddressesFrom.j0 k a2 t421 t437 true l0_0 a0_1 a0_2 l0_3 a1_0 a1_1 a1_2 a1_3) else ((laws_eqAddressS.f k t437 t421).bind fun t452 => (laws_FnExactAddressesFrom.j0 k a2 t421 t437 (!t452) l0_0 a0_1 a0_2 l0_3 a1_0 a1_1 a1_2 a1_3)))) else (some false)))) else (some false))))))))))
set_option maxHeartbeats 8000000 in
set_option maxRecDepth 100000 in
theorem laws_FnExactAddressesFrom.calls (k : Nat) (A0_0 : Option Addr) (c0_0 : Nat) (l0_0 : List (S175)) (a0_1 : Int) (a0_2 : Int) (A0_3 : Option Addr) (c0_3 : Nat) (l0_3 : List Int) (a1_0 : Int) (a1_1 : Int) (a1_2 : Int) (a1_3 : Int) (a2 : Int) (r : Bool) (w : World) (hr0_0 : Kd.C k175 w A0_0 l0_0.length l0_0) (hc0_0 : l0_0.length ≤ c0_0) (hr0_3 : Kd.C (Kd.int .i64) w A0_3 l0_3.length l0_3) (hc0_3 : l0_3.length ≤ c0_3) (hT_ : r = true) (h : laws_FnExactAddressesFrom.f k l0_0 a0_1 a0_2 l0_3 a1_0 a1_1 a1_2 a1_3 a2 = some r) :
  Calls Try.prog 12 #[.agg #[.slice A0_0 l0_0.length c0_0, .int .i64 a0_1, .int .i64 a0_2, .slice A0_3 l0_3.length c0_3], .agg #[.int .i64 a1_0, .int .i64 a1_1, .int .i64 a1_2, .int .i64 a1_3], .int .i64 a2] w fun e w' => e = .returned (.bool r) ∧ Below w.heap.size w w' := by
 have hu116 := Try.underlying116
 have hu118 := Try.underlying118
 have hu41 := Try.underlying41
 have HR0_0 := Aside0.mk hr0_0
 have HC0_0 := Aside0.mk hc0_0
 clear hr0_0 hc0_0
 have HR0_3 := Aside0.mk hr0_3
 have HC0_3 := Aside0.mk hc0_3
 clear hr0_3 hc0_3
 have HB := Aside0.mk (Below.refl w.heap.size w)
 have H : ((laws_szVisit.f k l0_0 a0_1 a0_2 l0_3 1048576).bind fun t408 => (if t408 < 0 then (some true) else ((laws_toVisit.f k l0_0 a0_1 a0_2 l0_3).bind fun bt409 => ((laws_toWant.f a1_0 a1_1 a1_2 a1_3).bind fun bt417 => ((spec_AddressesFrom.f k bt409.1 bt409.2.1 bt409.2.2.1 bt409.2.2.2 bt417.1 bt417.2.1 bt417.2.2.1 bt417.2.2.2 a2).bind fun t421 => ((laws_toVisit.f k l0_0 a0_1 a0_2 l0_3).bind fun bt424 => ((laws_toWant.f a1_0 a1_1 a1_2 a1_3).bind fun bt433 => ((impl_AddressesFrom.f k bt424.1 bt424.2.1 bt424.2.2.1 bt424.2.2.2 bt433.1 bt433.2.1 bt433.2.2.1 bt433.2.2.2 a2).bind fun t437 => ((laws_eqAddressS.f k t437 t421).bind fun t440 => (if t440 = true then ((laws_toVisit.f k l0_0 a0_1 a0_2 l0_3).bind fun bt441 => ((laws_eqVisit.f k bt424.1 bt424.2.1 bt424.2.2.1 bt424.2.2.2 bt441.1 bt441.2.1 bt441.2.2.1 bt441.2.2.2).bind fun t449 => (if t449 = true then ((laws_markVisit.f k bt424.1 bt424.2.1 bt424.2.2.1 bt424.2.2.2 1).bind fun bt450 => (if bt450.1 < 0 then (laws_FnExactAddressesFrom.j0 k a2 t421 t437 true l0_0 a0_1 a0_2 l0_3 a1_0 a1_1 a1_2 a1_3) else ((laws_eqAddressS.f k t437 t421).bind fun t452 => (laws_FnExactAddressesFrom.j0 k a2 t421 t437 (!t452) l0_0 a0_1 a0_2 l0_3 a1_0 a1_1 a1_2 a1_3)))) else (some false)))) else (some false))))))))))) = some r := h
 clear h
 replace H := Option.bind_eq_some_iff.mp H
 obtain ⟨t408, A40, H⟩ := H
 replace H : (if t408 < 0 then (some true) else ((laws_toVisit.f k l0_0 a0_1 a0_2 l0_3).bind fun bt409 => ((laws_toWant.f a1_0 a1_1 a1_2 a1_3).bind fun bt417 => ((spec_AddressesFrom.f k bt409.1 bt409.2.1 bt409.2.2.1 bt409.2.2.2 bt417.1 bt417.2.1 bt417.2.2.1 bt417.2.2.2 a2).bind fun t421 => ((laws_toVisit.f k l0_0 a0_1 a0_2 l0_3).bind fun bt424 => ((laws_toWant.f a1_0 a1_1 a1_2 a1_3).bind fun bt433 => ((impl_AddressesFrom.f k bt424.1 bt424.2.1 bt424.2.2.1 bt424.2.2.2 bt433.1 bt433.2.1 bt433.2.2.1 bt433.2.2.2 a2).bind fun t437 => ((laws_eqAddressS.f k t437 t421).bind fun t440 => (if t440 = true then ((laws_toVisit.f k l0_0 a0_1 a0_2 l0_3).bind fun bt441 => ((laws_eqVisit.f k bt424.1 bt424.2.1 bt424.2.2.1 bt424.2.2.2 bt441.1 bt441.2.1 bt441.2.2.1 bt441.2.2.2).bind fun t449 => (if t449 = true then ((laws_markVisit.f k bt424.1 bt424.2.1 bt424.2.2.1 bt424.2.2.2 1).bind fun bt450 => (if bt450.1 < 0 then (laws_FnExactAddressesFrom.j0 k a2 t421 t437 true l0_0 a0_1 a0_2 l0_3 a1_0 a1_1 a1_2 a1_3) else ((laws_eqAddressS.f k t437 t421).bind fun t452 => (laws_FnExactAddressesFrom.j0 k a2 t421 t437 (!t452) l0_0 a0_1 a0_2 l0_3 a1_0 a1_1 a1_2 a1_3)))) else (some false)))) else (some false)))))))))) = some r := H
 have A4 := Aside0.mk A40
 clear A40
 by_cases c5 : t408 < 0
 ·rw [if_pos c5] at H
  have c5b0 : decide (t408 < 0) = true := decide_eq_true c5
  clear c5
  obtain rfl := Option.some.inj H
  go_enter Try.func12, Try.ntmps12
  go_wp2_with (first | ((with_reducible refine gate_dst (N := 3) rfl ?_); refine box_event ?hg (N := 3) ?hd (cs := #[.slice A0_0 l0_0.length c0_0, .int .i64 a0_1, .int .i64 a0_2, .slice A0_3 l0_3.length c0_3]) (t := 116) ?hr ?_; (case hd => rfl); (case hg => rfl); (case hr => first | (go_simp; done) | (go_simp; rfl)); intro gb406 hg w6 hbox hb; have n0_ := Aside0.mk (below_step (by repeat (first | (with_reducible first | exact HB.out | apply below_alloc | apply pw_below_drewN | apply below_drew1) | exact HB.out)) hb); have n1_ := Aside0.mk (hbox); have n2_ := Aside0.mk ((by rw [hg]; exact (below_size (by repeat (first | (with_reducible first | exact HB.out | apply below_alloc | apply pw_below_drewN | apply below_drew1) | exact HB.out))) : w.heap.size ≤ gb406)); have n3_ := Aside0.mk ((by rw [hg]; exact (below_size (by repeat (first | (with_reducible first | exact HB.out | apply below_alloc | apply pw_below_drewN | apply below_drew1) | exact HB.out))) : w.heap.size ≤ gb406)); clear HB; have HB := n0_; have BK406 := n1_; have GW406 := n2_; have GE406 := n3_; clear n0_ n1_ n2_ n3_; clear hb hbox hg) | ((with_reducible refine gate_dst (N := 4) rfl ?_); refine box_event ?hg (N := 4) ?hd (cs := #[.int .i64 a1_0, .int .i64 a1_1, .int .i64 a1_2, .int .i64 a1_3]) (t := 118) ?hr ?_; (case hd => rfl); (case hg => rfl); (case hr => first | (go_simp; done) | (go_simp; rfl)); intro gb407 hg w7 hbox hb; have n0_ := Aside0.mk (blk_below (g := gb406) (o := .cells #[.slice A0_0 l0_0.length c0_0, .int .i64 a0_1, .int .i64 a0_2, .slice A0_3 l0_3.length c0_3] 116 (0, 0)) (by (with_reducible repeat (first | refine blk_drewN ?_ _ | refine blk_drew ?_ | refine blk_alloc ?_ _)); exact BK406.out) hb); have n1_ := Aside0.mk (below_step (by repeat (first | (with_reducible first | exact HB.out | apply below_alloc | apply pw_below_drewN | apply below_drew1 | refine below_set ?_ GE406.out) | exact HB.out)) hb); have n2_ := Aside0.mk (hbox); have n3_ := Aside0.mk ((by rw [hg]; exact (below_size (by repeat (first | (with_reducible first | exact HB.out | apply below_alloc | apply pw_below_drewN | apply below_drew1 | refine below_set ?_ GE406.out) | exact HB.out))) : w.heap.size ≤ gb407)); have n4_ := Aside0.mk ((by rw [hg]; exact (below_size (by repeat (first | (with_reducible first | exact HB.out | apply below_alloc | apply pw_below_drewN | apply below_drew1 | refine below_set ?_ GE406.out) | exact HB.out))) : w.heap.size ≤ gb407)); have n5_ := Aside0.mk ((by rw [hg]; exact Nat.ne_of_lt (blk_lt (g := gb406) (o := .cells #[.slice A0_0 l0_0.length c0_0, .int .i64 a0_1, .int .i64 a0_2, .slice A0_3 l0_3.length c0_3] 116 (0, 0)) (by (with_reducible repeat (first | refine blk_drewN ?_ _ | refine blk_drew ?_ | refine blk_alloc ?_ _)); exact BK406.out)) : gb406 ≠ gb407)); have n6_ := Aside0.mk ((by rw [hg]; exact Nat.ne_of_gt (blk_lt (g := gb406) (o := .cells #[.slice A0_0 l0_0.length c0_0, .int .i64 a0_1, .int .i64 a0_2, .slice A0_3 l0_3.length c0_3] 116 (0, 0)) (by (with_reducible repeat (first | refine blk_drewN ?_ _ | refine blk_drew ?_ | refine blk_alloc ?_ _)); exact BK406.out)) : gb407 ≠ gb406)); clear BK406; clear HB; have BK406 := n0_; have HB := n1_; have BK407 := n2_; have GW407 := n3_; have GE407 := n4_; have NB406_407 := n5_; have NB407_406 := n6_; clear n0_ n1_ n2_ n3_ n4_ n5_ n6_; clear hb hbox hg; have hnb8 := NB406_407.out; have hnc8 := NB407_406.out; have hcz9_0 : w7.cell? ⟨gb406, 0, none⟩ = some (.slice A0_0 l0_0.length c0_0) := (blk_cell BK406.out 0).trans rfl; have hcz9_1 : w7.cell? ⟨gb406, 1, none⟩ = some (.int .i64 a0_1) := (blk_cell BK406.out 1).trans rfl; have hcz9_2 : w7.cell? ⟨gb406, 2, none⟩ = some (.int .i64 a0_2) := (blk_cell BK406.out 2).trans rfl; have hcz9_3 : w7.cell? ⟨gb406, 3, none⟩ = some (.slice A0_3 l0_3.length c0_3) := (blk_cell BK406.out 3).trans rfl; have hfz9_0 := blk_frozen BK406.out 0; have hfz9_1 := blk_frozen BK406.out 1; have hfz9_2 := blk_frozen BK406.out 2; have hfz9_3 := blk_frozen BK406.out 3) | ((with_reducible refine gate_callee (f := 73) rfl ?_); refine goesL_ (some 17) rfl rfl Try.func73 (by kernel_rfl) rfl #[.agg #[.slice A0_0 l0_0.length c0_0, .int .i64 a0_1, .int .i64 a0_2, .slice A0_3 l0_3.length c0_3], .int .i64 1048576] rfl (by (try simp only [List.map_toArray, List.map_cons, List.map_nil]); first | done | rfl | (simp only [List.length_drop, List.length_take]; rfl)) ?_; (with_reducible refine (laws_szVisit.calls k _ _ l0_0 a0_1 a0_2 _ _ l0_3 1048576 t408 _ ?side1 ?side2 ?side3 ?side4 A4.out).mono ?_); (case side1 => repeat (first | exact (Kd.C_below HR0_0.out HB.out) | (with_reducible refine Kd.C_alloc ?_ _) | (with_reducible refine Kd.C_drewN ?_ _) | (with_reducible refine Kd.C_drew ?_))); (case side2 => exact HC0_0.out); (case side3 => repeat (first | exact (Kd.C_below HR0_3.out HB.out) | (with_reducible refine Kd.C_alloc ?_ _) | (with_reducible refine Kd.C_drewN ?_ _) | (with_reducible refine Kd.C_drew ?_))); (case side4 => exact HC0_3.out); rintro e w10 ⟨rfl, hb⟩; refine ⟨_, rfl, ?_⟩; have n0_ := Aside0.mk (blk_below (g := gb406) (o := .cells #[.slice A0_0 l0_0.length c0_0, .int .i64 a0_1, .int .i64 a0_2, .slice A0_3 l0_3.length c0_3] 116 (0, 0)) (by (with_reducible repeat (first | refine blk_drewN ?_ _ | refine blk_drew ?_ | refine blk_alloc ?_ _)); exact BK406.out) hb); have n1_ := Aside0.mk (blk_below (g := gb407) (o := .cells #[.int .i64 a1_0, .int .i64 a1_1, .int .i64 a1_2, .int .i64 a1_3] 118 (0, 0)) (by (with_reducible repeat (first | refine blk_drewN ?_ _ | refine blk_drew ?_ | refine blk_alloc ?_ _)); exact BK407.out) hb); have n2_ := Aside0.mk (below_step (by repeat (first | (with_reducible first | exact HB.out | apply below_alloc | apply pw_below_drewN | apply below_drew1 | refine below_set ?_ GE406.out | refine below_set ?_ GE407.out) | exact HB.out)) hb); clear BK406; clear BK407; clear HB; have BK406 := n0_; have BK407 := n1_; have HB := n2_; clear n0_ n1_ n2_; (try clear hb); (try clear hb2); (try clear hk); (try clear hi)))
  go_ret
  exact ⟨by first | rfl | (simp [errW_none, errW_some] <;> rfl) | (simp [*, errW_none, errW_some] <;> rfl), by repeat (first | (with_reducible first | exact HB.out | apply below_alloc | apply pw_below_drewN | apply below_drew1 | refine below_set ?_ GE406.out | refine below_set ?_ GE407.out) | exact HB.out)⟩
 ·rw [if_neg c5] at H
  have c5b0 : decide (t408 < 0) = false := decide_eq_false c5
  clear c5
  replace H := Option.bind_eq_some_iff.mp H
  obtain ⟨⟨t409, t412, t413, t414⟩, A110, H⟩ := H
  replace H : ((laws_toWant.f a1_0 a1_1 a1_2 a1_3).bind fun bt417 => ((spec_AddressesFrom.f k t409 t412 t413 t414 bt417.1 bt417.2.1 bt417.2.2.1 bt417.2.2.2 a2).bind fun t421 => ((laws_toVisit.f k l0_0 a0_1 a0_2 l0_3).bind fun bt424 => ((laws_toWant.f a1_0 a1_1 a1_2 a1_3).bind fun bt433 => ((impl_AddressesFrom.f k bt424.1 bt424.2.1 bt424.2.2.1 bt424.2.2.2 bt433.1 bt433.2.1 bt433.2.2.1 bt433.2.2.2 a2).bind fun t437 => ((laws_eqAddressS.f k t437 t421).bind fun t440 => (if t440 = true then ((laws_toVisit.f k l0_0 a0_1 a0_2 l0_3).bind fun bt441 => ((laws_eqVisit.f k bt424.1 bt424.2.1 bt424.2.2.1 bt424.2.2.2 bt441.1 bt441.2.1 bt441.2.2.1 bt441.2.2.2).bind fun t449 => (if t449 = true then ((laws_markVisit.f k bt424.1 bt424.2.1 bt424.2.2.1 bt424.2.2.2 1).bind fun bt450 => (if bt450.1 < 0 then (laws_FnExactAddressesFrom.j0 k a2 t421 t437 true l0_0 a0_1 a0_2 l0_3 a1_0 a1_1 a1_2 a1_3) else ((laws_eqAddressS.f k t437 t421).bind fun t452 => (laws_FnExactAddressesFrom.j0 k a2 t421 t437 (!t452) l0_0 a0_1 a0_2 l0_3 a1_0 a1_1 a1_2 a1_3)))) else (some false)))) else (some false)))))))) = some r := H
  have A11 := Aside0.mk A110
  clear A110
  replace H := Option.bind_eq_some_iff.mp H
  obtain ⟨⟨t417, t418, t419, t420⟩, A120, H⟩ := H
  replace H : ((spec_AddressesFrom.f k t409 t412 t413 t414 t417 t418 t419 t420 a2).bind fun t421 => ((laws_toVisit.f k l0_0 a0_1 a0_2 l0_3).bind fun bt424 => ((laws_toWant.f a1_0 a1_1 a1_2 a1_3).bind fun bt433 => ((impl_AddressesFrom.f k bt424.1 bt424.2.1 bt424.2.2.1 bt424.2.2.2 bt433.1 bt433.2.1 bt433.2.2.1 bt433.2.2.2 a2).bind fun t437 => ((laws_eqAddressS.f k t437 t421).bind fun t440 => (if t440 = true then ((laws_toVisit.f k l0_0 a0_1 a0_2 l0_3).bind fun bt441 => ((laws_eqVisit.f k bt424.1 bt424.2.1 bt424.2.2.1 bt424.2.2.2 bt441.1 bt441.2.1 bt441.2.2.1 bt441.2.2.2).bind fun t449 => (if t449 = true then ((laws_markVisit.f k bt424.1 bt424.2.1 bt424.2.2.1 bt424.2.2.2 1).bind fun bt450 => (if bt450.1 < 0 then (laws_FnExactAddressesFrom.j0 k a2 t421 t437 true l0_0 a0_1 a0_2 l0_3 a1_0 a1_1 a1_2 a1_3) else ((laws_eqAddressS.f k t437 t421).bind fun t452 => (laws_FnExactAddressesFrom.j0 k a2 t421 t437 (!t452) l0_0 a0_1 a0_2 l0_3 a1_0 a1_1 a1_2 a1_3)))) else (some false)))) else (some false))))))) = some r := H
  have A12 := Aside0.mk A120
  clear A120
  replace H := Option.bind_eq_some_iff.mp H
  obtain ⟨t421, A130, H⟩ := H
  replace H : ((laws_toVisit.f k l0_0 a0_1 a0_2 l0_3).bind fun bt424 => ((laws_toWant.f a1_0 a1_1 a1_2 a1_3).bind fun bt433 => ((impl_AddressesFrom.f k bt424.1 bt424.2.1 bt424.2.2.1 bt424.2.2.2 bt433.1 bt433.2.1 bt433.2.2.1 bt433.2.2.2 a2).bind fun t437 => ((laws_eqAddressS.f k t437 t421).bind fun t440 => (if t440 = true then ((laws_toVisit.f k l0_0 a0_1 a0_2 l0_3).bind fun bt441 => ((laws_eqVisit.f k bt424.1 bt424.2.1 bt424.2.2.1 bt424.2.2.2 bt441.1 bt441.2.1 bt441.2.2.1 bt441.2.2.2).bind fun t449 => (if t449 = true then ((laws_markVisit.f k bt424.1 bt424.2.1 bt424.2.2.1 bt424.2.2.2 1).bind fun bt450 => (if bt450.1 < 0 then (laws_FnExactAddressesFrom.j0 k a2 t421 t437 true l0_0 a0_1 a0_2 l0_3 a1_0 a1_1 a1_2 a1_3) else ((laws_eqAddressS.f k t437 t421).bind fun t452 => (laws_FnExactAddressesFrom.j0 k a2 t421 t437 (!t452) l0_0 a0_1 a0_2 l0_3 a1_0 a1_1 a1_2 a1_3)))) else (some false)))) else (some false)))))) = some r := H
  have A13 := Aside0.mk A130
  clear A130
  replace H := Option.bind_eq_some_iff.mp H
  obtain ⟨⟨t424, t427, t428, t429⟩, A140, H⟩ := H
  replace H : ((laws_toWant.f a1_0 a1_1 a1_2 a1_3).bind fun bt433 => ((impl_AddressesFrom.f k t424 t427 t428 t429 bt433.1 bt433.2.1 bt433.2.2.1 bt433.2.2.2 a2).bind fun t437 => ((laws_eqAddressS.f k t437 t421).bind fun t440 => (if t440 = true then ((laws_toVisit.f k l0_0 a0_1 a0_2 l0_3).bind fun bt441 => ((laws_eqVisit.f k t424 t427 t428 t429 bt441.1 bt441.2.1 bt441.2.2.1 bt441.2.2.2).bind fun t449 => (if t449 = true then ((laws_markVisit.f k t424 t427 t428 t429 1).bind fun bt450 => (if bt450.1 < 0 then (laws_FnExactAddressesFrom.j0 k a2 t421 t437 true l0_0 a0_1 a0_2 l0_3 a1_0 a1_1 a1_2 a1_3) else ((laws_eqAddressS.f k t437 t421).bind fun t452 => (laws_FnExactAddressesFrom.j0 k a2 t421 t437 (!t452) l0_0 a0_1 a0_2 l0_3 a1_0 a1_1 a1_2 a1_3)))) else (some false)))) else (some false))))) = some r := H
  have A14 := Aside0.mk A140
  clear A140
  replace H := Option.bind_eq_some_iff.mp H
  obtain ⟨⟨t433, t434, t435, t436⟩, A150, H⟩ := H
  replace H : ((impl_AddressesFrom.f k t424 t427 t428 t429 t433 t434 t435 t436 a2).bind fun t437 => ((laws_eqAddressS.f k t437 t421).bind fun t440 => (if t440 = true then ((laws_toVisit.f k l0_0 a0_1 a0_2 l0_3).bind fun bt441 => ((laws_eqVisit.f k t424 t427 t428 t429 bt441.1 bt441.2.1 bt441.2.2.1 bt441.2.2.2).bind fun t449 => (if t449 = true then ((laws_markVisit.f k t424 t427 t428 t429 1).bind fun bt450 => (if bt450.1 < 0 then (laws_FnExactAddressesFrom.j0 k a2 t421 t437 true l0_0 a0_1 a0_2 l0_3 a1_0 a1_1 a1_2 a1_3) else ((laws_eqAddressS.f k t437 t421).bind fun t452 => (laws_FnExactAddressesFrom.j0 k a2 t421 t437 (!t452) l0_0 a0_1 a0_2 l0_3 a1_0 a1_1 a1_2 a1_3)))) else (some false)))) else (some false)))) = some r := H
  have A15 := Aside0.mk A150
  clear A150
  replace H := Option.bind_eq_some_iff.mp H
  obtain ⟨t437, A160, H⟩ := H
  replace H : ((laws_eqAddressS.f k t437 t421).bind fun t440 => (if t440 = true then ((laws_toVisit.f k l0_0 a0_1 a0_2 l0_3).bind fun bt441 => ((laws_eqVisit.f k t424 t427 t428 t429 bt441.1 bt441.2.1 bt441.2.2.1 bt441.2.2.2).bind fun t449 => (if t449 = true then ((laws_markVisit.f k t424 t427 t428 t429 1).bind fun bt450 => (if bt450.1 < 0 then (laws_FnExactAddressesFrom.j0 k a2 t421 t437 true l0_0 a0_1 a0_2 l0_3 a1_0 a1_1 a1_2 a1_3) else ((laws_eqAddressS.f k t437 t421).bind fun t452 => (laws_FnExactAddressesFrom.j0 k a2 t421 t437 (!t452) l0_0 a0_1 a0_2 l0_3 a1_0 a1_1 a1_2 a1_3)))) else (some false)))) else (some false))) = some r := H
  have A16 := Aside0.mk A160
  clear A160
  replace H := Option.bind_eq_some_iff.mp H
  obtain ⟨t440, A170, H⟩ := H
  replace H : (if t440 = true then ((laws_toVisit.f k l0_0 a0_1 a0_2 l0_3).bind fun bt441 => ((laws_eqVisit.f k t424 t427 t428 t429 bt441.1 bt441.2.1 bt441.2.2.1 bt441.2.2.2).bind fun t449 => (if t449 = true then ((laws_markVisit.f k t424 t427 t428 t429 1).bind fun bt450 => (if bt450.1 < 0 then (laws_FnExactAddressesFrom.j0 k a2 t421 t437 true l0_0 a0_1 a0_2 l0_3 a1_0 a1_1 a1_2 a1_3) else ((laws_eqAddressS.f k t437 t421).bind fun t452 => (laws_FnExactAddressesFrom.j0 k a2 t421 t437 (!t452) l0_0 a0_1 a0_2 l0_3 a1_0 a1_1 a1_2 a1_3)))) else (some false)))) else (some false)) = some r := H
  have A17 := Aside0.mk A170
  clear A170
  by_cases c18 : t440 = true
  ·subst c18
   have H1 : ((laws_toVisit.f k l0_0 a0_1 a0_2 l0_3).bind fun bt441 => ((laws_eqVisit.f k t424 t427 t428 t429 bt441.1 bt441.2.1 bt441.2.2.1 bt441.2.2.2).bind fun t449 => (if t449 = true then ((laws_markVisit.f k t424 t427 t428 t429 1).bind fun bt450 => (if bt450.1 < 0 then (laws_FnExactAddressesFrom.j0 k a2 t421 t437 true l0_0 a0_1 a0_2 l0_3 a1_0 a1_1 a1_2 a1_3) else ((laws_eqAddressS.f k t437 t421).bind fun t452 => (laws_FnExactAddressesFrom.j0 k a2 t421 t437 (!t452) l0_0 a0_1 a0_2 l0_3 a1_0 a1_1 a1_2 a1_3)))) else (some false)))) = some r := by rw [if_pos rfl] at H; exact H
   clear H
   have H := H1
   clear H1
   replace H := Option.bind_eq_some_iff.mp H
   obtain ⟨⟨t441, t444, t445, t446⟩, A190, H⟩ := H
   replace H : ((laws_eqVisit.f k t424 t427 t428 t429 t441 t444 t445 t446).bind fun t449 => (if t449 = true then ((laws_markVisit.f k t424 t427 t428 t429 1).bind fun bt450 => (if bt450.1 < 0 then (laws_FnExactAddressesFrom.j0 k a2 t421 t437 true l0_0 a0_1 a0_2 l0_3 a1_0 a1_1 a1_2 a1_3) else ((laws_eqAddressS.f k t437 t421).bind fun t452 => (laws_FnExactAddressesFrom.j0 k a2 t421 t437 (!t452) l0_0 a0_1 a0_2 l0_3 a1_0 a1_1 a1_2 a1_3)))) else (some false))) = some r := H
   have A19 := Aside0.mk A190
   clear A190
   replace H := Option.bind_eq_some_iff.mp H
   obtain ⟨t449, A200, H⟩ := H
   replace H : (if t449 = true then ((laws_markVisit.f k t424 t427 t428 t429 1).bind fun bt450 => (if bt450.1 < 0 then (laws_FnExactAddressesFrom.j0 k a2 t421 t437 true l0_0 a0_1 a0_2 l0_3 a1_0 a1_1 a1_2 a1_3) else ((laws_eqAddressS.f k t437 t421).bind fun t452 => (laws_FnExactAddressesFrom.j0 k a2 t421 t437 (!t452) l0_0 a0_1 a0_2 l0_3 a1_0 a1_1 a1_2 a1_3)))) else (some false)) = some r := H
   have A20 := Aside0.mk A200
   clear A200
   by_cases c21 : t449 = true
   ·subst c21
    have H1 : ((laws_markVisit.f k t424 t427 t428 t429 1).bind fun bt450 => (if bt450.1 < 0 then (laws_FnExactAddressesFrom.j0 k a2 t421 t437 true l0_0 a0_1 a0_2 l0_3 a1_0 a1_1 a1_2 a1_3) else ((laws_eqAddressS.f k t437 t421).bind fun t452 => (laws_FnExactAddressesFrom.j0 k a2 t421 t437 (!t452) l0_0 a0_1 a0_2 l0_3 a1_0 a1_1 a1_2 a1_3)))) = some r := by rw [if_pos rfl] at H; exact H
    clear H
    have H := H1
    clear H1
    replace H := Option.bind_eq_some_iff.mp H
    obtain ⟨⟨t450, t451⟩, A220, H⟩ := H
    replace H : (if t450 < 0 then (laws_FnExactAddressesFrom.j0 k a2 t421 t437 true l0_0 a0_1 a0_2 l0_3 a1_0 a1_1 a1_2 a1_3) else ((laws_eqAddressS.f k t437 t421).bind fun t452 => (laws_FnExactAddressesFrom.j0 k a2 t421 t437 (!t452) l0_0 a0_1 a0_2 l0_3 a1_0 a1_1 a1_2 a1_3))) = some r := H
    have A22 := Aside0.mk A220
    clear A220
    have HC23 := Aside0.mk H
    clear H
    go_enter Try.func12, Try.ntmps12
    try go_wp2_with (first | ((with_reducible refine gate_dst (N := 3) rfl ?_); refine box_event ?hg (N := 3) ?hd (cs := #[.slice A0_0 l0_0.length c0_0, .int .i64 a0_1, .int .i64 a0_2, .slice A0_3 l0_3.length c0_3]) (t := 116) ?hr ?_; (case hd => rfl); (case hg => rfl); (case hr => first | (go_simp; done) | (go_simp; rfl)); intro gb406 hg w24 hbox hb; have n0_ := Aside0.mk (below_step (by repeat (first | (with_reducible first | exact HB.out | apply below_alloc | apply pw_below_drewN | apply below_drew1) | exact HB.out)) hb); have n1_ := Aside0.mk (hbox); have n2_ := Aside0.mk ((by rw [hg]; exact (below_size (by repeat (first | (with_reducible first | exact HB.out | apply below_alloc | apply pw_below_drewN | apply below_drew1) | exact HB.out))) : w.heap.size ≤ gb406)); have n3_ := Aside0.mk ((by rw [hg]; exact (below_size (by repeat (first | (with_reducible first | exact HB.out | apply below_alloc | apply pw_below_drewN | apply below_drew1) | exact HB.out))) : w.heap.size ≤ gb406)); clear HB; have HB := n0_; have BK406 := n1_; have GW406 := n2_; have GE406 := n3_; clear n0_ n1_ n2_ n3_; clear hb hbox hg) | ((with_reducible refine gate_dst (N := 4) rfl ?_); refine box_event ?hg (N := 4) ?hd (cs := #[.int .i64 a1_0, .int .i64 a1_1, .int .i64 a1_2, .int .i64 a1_3]) (t := 118) ?hr ?_; (case hd => rfl); (case hg => rfl); (case hr => first | (go_simp; done) | (go_simp; rfl)); intro gb407 hg w25 hbox hb; have n0_ := Aside0.mk (blk_below (g := gb406) (o := .cells #[.slice A0_0 l0_0.length c0_0, .int .i64 a0_1, .int .i64 a0_2, .slice A0_3 l0_3.length c0_3] 116 (0, 0)) (by (with_reducible repeat (first | refine blk_drewN ?_ _ | refine blk_drew ?_ | refine blk_alloc ?_ _)); exact BK406.out) hb); have n1_ := Aside0.mk (below_step (by repeat (first | (with_reducible first | exact HB.out | apply below_alloc | apply pw_below_drewN | apply below_drew1 | refine below_set ?_ GE406.out) | exact HB.out)) hb); have n2_ := Aside0.mk (hbox); have n3_ := Aside0.mk ((by rw [hg]; exact (below_size (by repeat (first | (with_reducible first | exact HB.out | apply below_alloc | apply pw_below_drewN | apply below_drew1 | refine below_set ?_ GE406.out) | exact HB.out))) : w.heap.size ≤ gb407)); have n4_ := Aside0.mk ((by rw [hg]; exact (below_size (by repeat (first | (with_reducible first | exact HB.out | apply below_alloc | apply pw_below_drewN | apply below_drew1 | refine below_set ?_ GE406.out) | exact HB.out))) : w.heap.size ≤ gb407)); have n5_ := Aside0.mk ((by rw [hg]; exact Nat.ne_of_lt (blk_lt (g := gb406) (o := .cells #[.slice A0_0 l0_0.length c0_0, .int .i64 a0_1, .int .i64 a0_2, .slice A0_3 l0_3.length c0_3] 116 (0, 0)) (by (with_reducible repeat (first | refine blk_drewN ?_ _ | refine blk_drew ?_ | refine blk_alloc ?_ _)); exact BK406.out)) : gb406 ≠ gb407)); have n6_ := Aside0.mk ((by rw [hg]; exact Nat.ne_of_gt (blk_lt (g := gb406) (o := .cells #[.slice A0_0 l0_0.length c0_0, .int .i64 a0_1, .int .i64 a0_2, .slice A0_3 l0_3.length c0_3] 116 (0, 0)) (by (with_reducible repeat (first | refine blk_drewN ?_ _ | refine blk_drew ?_ | refine blk_alloc ?_ _)); exact BK406.out)) : gb407 ≠ gb406)); clear BK406; clear HB; have BK406 := n0_; have HB := n1_; have BK407 := n2_; have GW407 := n3_; have GE407 := n4_; have NB406_407 := n5_; have NB407_406 := n6_; clear n0_ n1_ n2_ n3_ n4_ n5_ n6_; clear hb hbox hg; have hnb26 := NB406_407.out; have hnc26 := NB407_406.out; have hcz27_0 : w25.cell? ⟨gb406, 0, none⟩ = some (.slice A0_0 l0_0.length c0_0) := (blk_cell BK406.out 0).trans rfl; have hcz27_1 : w25.cell? ⟨gb406, 1, none⟩ = some (.int .i64 a0_1) := (blk_cell BK406.out 1).trans rfl; have hcz27_2 : w25.cell? ⟨gb406, 2, none⟩ = some (.int .i64 a0_2) := (blk_cell BK406.out 2).trans rfl; have hcz27_3 : w25.cell? ⟨gb406, 3, none⟩ = some (.slice A0_3 l0_3.length c0_3) := (blk_cell BK406.out 3).trans rfl; have hfz27_0 := blk_frozen BK406.out 0; have hfz27_1 := blk_frozen BK406.out 1; have hfz27_2 := blk_frozen BK406.out 2; have hfz27_3 := blk_frozen BK406.out 3) | ((with_reducible refine gate_callee (f := 73) rfl ?_); refine goesL_ (some 17) rfl rfl Try.func73 (by kernel_rfl) rfl #[.agg #[.slice A0_0 l0_0.length c0_0, .int .i64 a0_1, .int .i64 a0_2, .slice A0_3 l0_3.length c0_3], .int .i64 1048576] rfl (by (try simp only [List.map_toArray, List.map_cons, List.map_nil]); first | done | rfl | (simp only [List.length_drop, List.length_take]; rfl)) ?_; (with_reducible refine (laws_szVisit.calls k _ _ l0_0 a0_1 a0_2 _ _ l0_3 1048576 t408 _ ?side1 ?side2 ?side3 ?side4 A4.out).mono ?_); (case side1 => repeat (first | exact (Kd.C_below HR0_0.out HB.out) | (with_reducible refine Kd.C_alloc ?_ _) | (with_reducible refine Kd.C_drewN ?_ _) | (with_reducible refine Kd.C_drew ?_))); (case side2 => exact HC0_0.out); (case side3 => repeat (first | exact (Kd.C_below HR0_3.out HB.out) | (with_reducible refine Kd.C_alloc ?_ _) | (with_reducible refine Kd.C_drewN ?_ _) | (with_reducible refine Kd.C_drew ?_))); (case side4 => exact HC0_3.out); rintro e w28 ⟨rfl, hb⟩; refine ⟨_, rfl, ?_⟩; have n0_ := Aside0.mk (blk_below (g := gb406) (o := .cells #[.slice A0_0 l0_0.length c0_0, .int .i64 a0_1, .int .i64 a0_2, .slice A0_3 l0_3.length c0_3] 116 (0, 0)) (by (with_reducible repeat (first | refine blk_drewN ?_ _ | refine blk_drew ?_ | refine blk_alloc ?_ _)); exact BK406.out) hb); have n1_ := Aside0.mk (blk_below (g := gb407) (o := .cells #[.int .i64 a1_0, .int .i64 a1_1, .int .i64 a1_2, .int .i64 a1_3] 118 (0, 0)) (by (with_reducible repeat (first | refine blk_drewN ?_ _ | refine blk_drew ?_ | refine blk_alloc ?_ _)); exact BK407.out) hb); have n2_ := Aside0.mk (below_step (by repeat (first | (with_reducible first | exact HB.out | apply below_alloc | apply pw_below_drewN | apply below_drew1 | refine below_set ?_ GE406.out | refine below_set ?_ GE407.out) | exact HB.out)) hb); clear BK406; clear BK407; clear HB; have BK406 := n0_; have BK407 := n1_; have HB := n2_; clear n0_ n1_ n2_; (try clear hb); (try clear hb2); (try clear hk); (try clear hi)))
    have n0_ := Aside0.mk (blk_drew BK406.out)
    have n1_ := Aside0.mk (blk_drew BK407.out)
    have n2_ := Aside0.mk (below_drew1 HB.out)
    clear BK406
    clear BK407
    clear HB
    have BK406 := n0_
    have BK407 := n1_
    have HB := n2_
    clear n0_ n1_ n2_
    refine start_ (n := 7) (S := fun w' => w'.cell? ⟨gb406, 0, none⟩ = some (.slice A0_0 l0_0.length c0_0) ∧ w'.cell? ⟨gb406, 1, none⟩ = some (.int .i64 a0_1) ∧ w'.cell? ⟨gb406, 2, none⟩ = some (.int .i64 a0_2) ∧ w'.cell? ⟨gb406, 3, none⟩ = some (.slice A0_3 l0_3.length c0_3) ∧ w'.cell? ⟨gb407, 0, none⟩ = some (.int .i64 a1_0) ∧ w'.cell? ⟨gb407, 1, none⟩ = some (.int .i64 a1_1) ∧ w'.cell? ⟨gb407, 2, none⟩ = some (.int .i64 a1_2) ∧ w'.cell? ⟨gb407, 3, none⟩ = some (.int .i64 a1_3)) (ds := []) #[false, false, false, false, false, false, false] (by kernel_rfl) rfl rfl ⟨(blk_cell BK406.out 0).trans rfl, (blk_cell BK406.out 1).trans rfl, (blk_cell BK406.out 2).trans rfl, (blk_cell BK406.out 3).trans rfl, (blk_cell BK407.out 0).trans rfl, (blk_cell BK407.out 1).trans rfl, (blk_cell BK407.out 2).trans rfl, (blk_cell BK407.out 3).trans rfl⟩ (fun hHeld => ?_)
    generalize w28.drew = w29 at BK406 BK407 HB hHeld ⊢
    refine pure_ (i := 4) (N := some 24) (v := ?_) (a' := ?_) #[false, false, false, false, true, false, false] rfl rfl (by kernel_rfl) (fun _ _ _ h => h) (Or.inl ⟨by rfl, ?_⟩) ?_ ?_
    rotate_left
    ·intro w'
     go_simp
     with_reducible rfl
    rotate_left
    ·simp only [Act.put, List.setIfInBounds_toArray, List.set_cons_zero, List.set_cons_succ, i64_w, i32_w]
     rfl
    refine take_ (i := 0) (N := some 20) (v := ?_) (a' := ?_) #[true, false, false, false, true, false, false] rfl rfl (by kernel_rfl) (fun _ _ _ h => h) (Or.inl ⟨by rfl, ?_⟩) hHeld ?_ ?_
    rotate_left
    ·rintro w' ⟨s0, s1, s2, s3, s4, s5, s6, s7⟩
     go_simp
     with_reducible rfl
    rotate_left
    ·simp only [Act.put, List.setIfInBounds_toArray, List.set_cons_zero, List.set_cons_succ, i64_w, i32_w]
     rfl
    refine take_ (i := 2) (N := some 22) (v := ?_) (a' := ?_) #[true, false, true, false, true, false, false] rfl rfl (by kernel_rfl) (fun _ _ _ h => h) (Or.inl ⟨by rfl, ?_⟩) hHeld ?_ ?_
    rotate_left
    ·rintro w' ⟨s0, s1, s2, s3, s4, s5, s6, s7⟩
     go_simp
     with_reducible rfl
    rotate_left
    ·simp only [Act.put, List.setIfInBounds_toArray, List.set_cons_zero, List.set_cons_succ, i64_w, i32_w]
     rfl
    refine one_ (i := 1) (N := some 21) #[true, true, true, false, true, false, false] rfl rfl (by kernel_rfl) (by decide) (fun K hK => ?_)
    refine goes_ Try.func75 (by kernel_rfl) rfl #[.agg #[.slice A0_0 l0_0.length c0_0, .int .i64 a0_1, .int .i64 a0_2, .slice A0_3 l0_3.length c0_3]] (by rfl) rfl rfl (by (try simp only [List.map_toArray, List.map_cons, List.map_nil]); first | done | rfl | (simp only [List.length_drop, List.length_take]; rfl)) ?_
    with_reducible refine (laws_toVisit.calls k _ _ l0_0 a0_1 a0_2 _ _ l0_3 t409 t412 t413 t414 _ ?side1 ?side2 ?side3 ?side4 A11.out).mono ?_
    (case side1 => repeat (first | exact (Kd.C_below HR0_0.out HB.out) | (with_reducible refine Kd.C_alloc ?_ _) | (with_reducible refine Kd.C_drewN ?_ _) | (with_reducible refine Kd.C_drew ?_)))
    (case side2 => exact HC0_0.out)
    (case side3 => repeat (first | exact (Kd.C_below HR0_3.out HB.out) | (with_reducible refine Kd.C_alloc ?_ _) | (with_reducible refine Kd.C_drewN ?_ _) | (with_reducible refine Kd.C_drew ?_)))
    (case side4 => exact HC0_3.out)
    rintro e w30 ⟨v410, v415, rfl, ho0, ho1, hb⟩
    refine ⟨_, rfl, ?_⟩
    have n0_ := Aside0.mk (Kd.S_lower ho0 (below_size (by repeat (first | (with_reducible first | exact HB.out | apply below_alloc | apply pw_below_drewN | apply below_drew1 | refine below_set ?_ GE406.out | refine below_set ?_ GE407.out) | exact HB.out))))
    have n1_ := Aside0.mk (Kd.R_lower ho1 (below_size (by repeat (first | (with_reducible first | exact HB.out | apply below_alloc | apply pw_below_drewN | apply below_drew1 | refine below_set ?_ GE406.out | refine below_set ?_ GE407.out) | exact HB.out))))
    have n2_ := Aside0.mk (blk_below (g := gb406) (o := .cells #[.slice A0_0 l0_0.length c0_0, .int .i64 a0_1, .int .i64 a0_2, .slice A0_3 l0_3.length c0_3] 116 (0, 0)) (by (with_reducible repeat (first | refine blk_drewN ?_ _ | refine blk_drew ?_ | refine blk_alloc ?_ _)); exact BK406.out) hb)
    have n3_ := Aside0.mk (blk_below (g := gb407) (o := .cells #[.int .i64 a1_0, .int .i64 a1_1, .int .i64 a1_2, .int .i64 a1_3] 118 (0, 0)) (by (with_reducible repeat (first | refine blk_drewN ?_ _ | refine blk_drew ?_ | refine blk_alloc ?_ _)); exact BK407.out) hb)
    have n4_ := Aside0.mk (below_step (by repeat (first | (with_reducible first | exact HB.out | apply below_alloc | apply pw_below_drewN | apply below_drew1 | refine below_set ?_ GE406.out | refine below_set ?_ GE407.out) | exact HB.out)) hb)
    clear BK406
    clear BK407
    clear HB
    have HO411 := n0_
    have HO416 := n1_
    have BK406 := n2_
    have BK407 := n3_
    have HB := n4_
    clear n0_ n1_ n2_ n3_ n4_
    (try clear hb)
    (try clear hb2)
    (try clear hk)
    (try clear hi)
    (try clear ho0)
    (try clear ho1)
    refine hK.out _ _ ⟨(blk_cell BK406.out 0).trans rfl, (blk_cell BK406.out 1).trans rfl, (blk_cell BK406.out 2).trans rfl, (blk_cell BK406.out 3).trans rfl, (blk_cell BK407.out 0).trans rfl, (blk_cell BK407.out 1).trans rfl, (blk_cell BK407.out 2).trans rfl, (blk_cell BK407.out 3).trans rfl⟩ (fun hHeld => ?_)
    clear hK K
    refine norm_ (a' := ?_) ?_ ?_
    rotate_left
    ·show Act.put _ (some 21) _ = _
     simp only [Act.put, List.setIfInBounds_toArray, List.set_cons_zero, List.set_cons_succ, i64_w, i32_w]
     rfl
    refine one_ (i := 3) (N := some 23) #[true, true, true, true, true, false, false] rfl rfl (by kernel_rfl) (by decide) (fun K hK => ?_)
    refine goes_ Try.func76 (by kernel_rfl) rfl #[.agg #[.int .i64 a1_0, .int .i64 a1_1, .int .i64 a1_2, .int .i64 a1_3]] (by rfl) rfl rfl (by (try simp only [List.map_toArray, List.map_cons, List.map_nil]); first | done | rfl | (simp only [List.length_drop, List.length_take]; rfl)) ?_
    with_reducible refine (laws_toWant.calls a1_0 a1_1 a1_2 a1_3 t417 t418 t419 t420 _ A12.out).mono ?_
    rintro e w31 ⟨rfl, hb⟩
    refine ⟨_, rfl, ?_⟩
    have n0_ := Aside0.mk (Kd.S_below (by (with_reducible repeat (first | apply Kd.S_alloc | apply Kd.S_drewN | apply Kd.S_drew)); exact HO411.out) hb)
    have n1_ := Aside0.mk (Kd.R_below (by (with_reducible repeat (first | apply Kd.R_alloc | apply Kd.R_drewN | apply Kd.R_drew)); exact HO416.out) hb)
    have n2_ := Aside0.mk (blk_below (g := gb406) (o := .cells #[.slice A0_0 l0_0.length c0_0, .int .i64 a0_1, .int .i64 a0_2, .slice A0_3 l0_3.length c0_3] 116 (0, 0)) (by (with_reducible repeat (first | refine blk_drewN ?_ _ | refine blk_drew ?_ | refine blk_alloc ?_ _)); exact BK406.out) hb)
    have n3_ := Aside0.mk (blk_below (g := gb407) (o := .cells #[.int .i64 a1_0, .int .i64 a1_1, .int .i64 a1_2, .int .i64 a1_3] 118 (0, 0)) (by (with_reducible repeat (first | refine blk_drewN ?_ _ | refine blk_drew ?_ | refine blk_alloc ?_ _)); exact BK407.out) hb)
    have n4_ := Aside0.mk (below_step (by repeat (first | (with_reducible first | exact HB.out | apply below_alloc | apply pw_below_drewN | apply below_drew1 | refine below_set ?_ GE406.out | refine below_set ?_ GE407.out) | exact HB.out)) hb)
    clear HO411
    clear HO416
    clear BK406
    clear BK407
    clear HB
    have HO411 := n0_
    have HO416 := n1_
    have BK406 := n2_
    have BK407 := n3_
    have HB := n4_
    clear n0_ n1_ n2_ n3_ n4_
    (try clear hb)
    (try clear hb2)
    (try clear hk)
    (try clear hi)
    obtain ⟨Ao32, co32, eo32⟩ := Kd.S_slice HO411.out
    (first | subst eo32 | (injection eo32 with f1_ f2_ f3_; have f4_ := f1_.symm; have f5_ := f3_.symm; clear f1_ f2_ f3_; subst f4_; subst f5_))
    obtain ⟨Ao33, co33, eo33⟩ := Kd.R_slice HO416.out
    (first | subst eo33 | (injection eo33 with f1_ f2_ f3_; have f4_ := f1_.symm; have f5_ := f3_.symm; clear f1_ f2_ f3_; subst f4_; subst f5_))
    refine hK.out _ _ ⟨(blk_cell BK406.out 0).trans rfl, (blk_cell BK406.out 1).trans rfl, (blk_cell BK406.out 2).trans rfl, (blk_cell BK406.out 3).trans rfl, (blk_cell BK407.out 0).trans rfl, (blk_cell BK407.out 1).trans rfl, (blk_cell BK407.out 2).trans rfl, (blk_cell BK407.out 3).trans rfl⟩ (fun hHeld => ?_)
    clear hK K
    refine norm_ (a' := ?_) ?_ ?_
    rotate_left
    ·show Act.put _ (some 23) _ = _
     simp only [Act.put, List.setIfInBounds_toArray, List.set_cons_zero, List.set_cons_succ, i64_w, i32_w]
     rfl
    refine one_ (i := 5) (N := some 25) #[true, true, true, true, true, true, false] rfl rfl (by kernel_rfl) (by decide) (fun K hK => ?_)
    refine goes_ Try.func74 (by kernel_rfl) rfl #[.agg #[.slice Ao32 t409.length co32, .int .i64 t412, .int .i64 t413, .slice Ao33 t414.length co33], .agg #[.int .i64 t417, .int .i64 t418, .int .i64 t419, .int .i64 t420], .int .i64 a2] (by rfl) rfl rfl (by (try simp only [List.map_toArray, List.map_cons, List.map_nil]); first | done | rfl | (simp only [List.length_drop, List.length_take]; rfl)) ?_
    with_reducible refine (spec_AddressesFrom.calls k _ _ t409 t412 t413 _ _ t414 t417 t418 t419 t420 a2 t421 _ ?side1 ?side2 ?side3 ?side4 A13.out).mono ?_
    (case side1 => repeat (first | exact (Kd.S_reads' HO411.out).2.2 | (with_reducible refine Kd.C_alloc ?_ _) | (with_reducible refine Kd.C_drewN ?_ _) | (with_reducible refine Kd.C_drew ?_)))
    (case side2 => exact (Kd.S_reads' HO411.out).2.1)
    (case side3 => repeat (first | exact (Kd.R_reads' HO416.out).2.2 | (with_reducible refine Kd.C_alloc ?_ _) | (with_reducible refine Kd.C_drewN ?_ _) | (with_reducible refine Kd.C_drew ?_)))
    (case side4 => exact (Kd.R_reads' HO416.out).2.1)
    rintro e w34 ⟨v422, rfl, ho0, hb⟩
    refine ⟨_, rfl, ?_⟩
    have n0_ := Aside0.mk (Kd.S_below (by (with_reducible repeat (first | apply Kd.S_alloc | apply Kd.S_drewN | apply Kd.S_drew)); exact HO411.out) hb)
    have n1_ := Aside0.mk (Kd.R_below (by (with_reducible repeat (first | apply Kd.R_alloc | apply Kd.R_drewN | apply Kd.R_drew)); exact HO416.out) hb)
    have n2_ := Aside0.mk (Kd.R_lower ho0 (below_size (by repeat (first | (with_reducible first | exact HB.out | apply below_alloc | apply pw_below_drewN | apply below_drew1 | refine below_set ?_ GE406.out | refine below_set ?_ GE407.out) | exact HB.out))))
    have n3_ := Aside0.mk (blk_below (g := gb406) (o := .cells #[.slice A0_0 l0_0.length c0_0, .int .i64 a0_1, .int .i64 a0_2, .slice A0_3 l0_3.length c0_3] 116 (0, 0)) (by (with_reducible repeat (first | refine blk_drewN ?_ _ | refine blk_drew ?_ | refine blk_alloc ?_ _)); exact BK406.out) hb)
    have n4_ := Aside0.mk (blk_below (g := gb407) (o := .cells #[.int .i64 a1_0, .int .i64 a1_1, .int .i64 a1_2, .int .i64 a1_3] 118 (0, 0)) (by (with_reducible repeat (first | refine blk_drewN ?_ _ | refine blk_drew ?_ | refine blk_alloc ?_ _)); exact BK407.out) hb)
    have n5_ := Aside0.mk (below_step (by repeat (first | (with_reducible first | exact HB.out | apply below_alloc | apply pw_below_drewN | apply below_drew1 | refine below_set ?_ GE406.out | refine below_set ?_ GE407.out) | exact HB.out)) hb)
    clear HO411
    clear HO416
    clear BK406
    clear BK407
    clear HB
    have HO411 := n0_
    have HO416 := n1_
    have HO423 := n2_
    have BK406 := n3_
    have BK407 := n4_
    have HB := n5_
    clear n0_ n1_ n2_ n3_ n4_ n5_
    (try clear hb)
    (try clear hb2)
    (try clear hk)
    (try clear hi)
    (try clear ho0)
    refine hK.out _ _ ⟨(blk_cell BK406.out 0).trans rfl, (blk_cell BK406.out 1).trans rfl, (blk_cell BK406.out 2).trans rfl, (blk_cell BK406.out 3).trans rfl, (blk_cell BK407.out 0).trans rfl, (blk_cell BK407.out 1).trans rfl, (blk_cell BK407.out 2).trans rfl, (blk_cell BK407.out 3).trans rfl⟩ (fun hHeld => ?_)
    clear hK K
    refine norm_ (a' := ?_) ?_ ?_
    rotate_left
    ·show Act.put _ (some 25) _ = _
     simp only [Act.put, List.setIfInBounds_toArray, List.set_cons_zero, List.set_cons_succ, i64_w, i32_w]
     rfl
    refine pure_ (i := 6) (N := some 8) (v := ?_) (a' := ?_) #[true, true, true, true, true, true, true] rfl rfl (by kernel_rfl) (fun _ _ _ h => h) (Or.inl ⟨by rfl, ?_⟩) ?_ ?_
    rotate_left
    ·intro w'
     go_simp
     with_reducible rfl
    rotate_left
    ·simp only [Act.put, List.setIfInBounds_toArray, List.set_cons_zero, List.set_cons_succ, i64_w, i32_w]
     rfl
    refine done_ (by kernel_rfl) ?_
    have hcz35_0 : w34.cell? ⟨gb406, 0, none⟩ = some (.slice A0_0 l0_0.length c0_0) := (blk_cell BK406.out 0).trans rfl
    have hcz35_1 : w34.cell? ⟨gb406, 1, none⟩ = some (.int .i64 a0_1) := (blk_cell BK406.out 1).trans rfl
    have hcz35_2 : w34.cell? ⟨gb406, 2, none⟩ = some (.int .i64 a0_2) := (blk_cell BK406.out 2).trans rfl
    have hcz35_3 : w34.cell? ⟨gb406, 3, none⟩ = some (.slice A0_3 l0_3.length c0_3) := (blk_cell BK406.out 3).trans rfl
    have hfz35_0 := blk_frozen BK406.out 0
    have hfz35_1 := blk_frozen BK406.out 1
    have hfz35_2 := blk_frozen BK406.out 2
    have hfz35_3 := blk_frozen BK406.out 3
    try go_wp2_with (first | ((with_reducible refine gate_callee (f := 75) rfl ?_); refine goesL_ (some 27) rfl rfl Try.func75 (by kernel_rfl) rfl #[.agg #[.slice A0_0 l0_0.length c0_0, .int .i64 a0_1, .int .i64 a0_2, .slice A0_3 l0_3.length c0_3]] rfl (by (try simp only [List.map_toArray, List.map_cons, List.map_nil]); first | done | rfl | (simp only [List.length_drop, List.length_take]; rfl)) ?_; (with_reducible refine (laws_toVisit.calls k _ _ l0_0 a0_1 a0_2 _ _ l0_3 t424 t427 t428 t429 _ ?side1 ?side2 ?side3 ?side4 A14.out).mono ?_); (case side1 => repeat (first | exact (Kd.C_below HR0_0.out HB.out) | (with_reducible refine Kd.C_alloc ?_ _) | (with_reducible refine Kd.C_drewN ?_ _) | (with_reducible refine Kd.C_drew ?_))); (case side2 => exact HC0_0.out); (case side3 => repeat (first | exact (Kd.C_below HR0_3.out HB.out) | (with_reducible refine Kd.C_alloc ?_ _) | (with_reducible refine Kd.C_drewN ?_ _) | (with_reducible refine Kd.C_drew ?_))); (case side4 => exact HC0_3.out); rintro e w36 ⟨v425, v430, rfl, ho0, ho1, hb⟩; refine ⟨_, rfl, ?_⟩; have n0_ := Aside0.mk (Kd.S_mono (Kd.S_told (Kd.S_told (Kd.S_old (by (with_reducible repeat (first | apply Kd.S_alloc | apply Kd.S_drewN | apply Kd.S_drew)); exact HO411.out) hb) (Kd.S_base ho0)) (Kd.R_base ho1)) (fun _ h_ => h_.1)); have n1_ := Aside0.mk (Kd.R_elder' (by (with_reducible repeat (first | apply Kd.R_alloc | apply Kd.R_drewN | apply Kd.R_drew)); exact HO416.out) (Kd.R_base ho1) hb); have n2_ := Aside0.mk (Kd.R_below (by (with_reducible repeat (first | apply Kd.R_alloc | apply Kd.R_drewN | apply Kd.R_drew)); exact HO423.out) hb); have n3_ := Aside0.mk (Kd.S_lower (Kd.S_new' (Kd.S_new' ho0 (Kd.S_lt (by (with_reducible repeat (first | apply Kd.S_alloc | apply Kd.S_drewN | apply Kd.S_drew)); exact HO411.out))) (Kd.R_lt (by (with_reducible repeat (first | apply Kd.R_alloc | apply Kd.R_drewN | apply Kd.R_drew)); exact HO416.out))) (below_size (by repeat (first | (with_reducible first | exact HB.out | apply below_alloc | apply pw_below_drewN | apply below_drew1 | refine below_set ?_ GE406.out | refine below_set ?_ GE407.out) | exact HB.out)))); have n4_ := Aside0.mk (Kd.R_lower (Kd.R_new' ho1 (Kd.R_lt (by (with_reducible repeat (first | apply Kd.R_alloc | apply Kd.R_drewN | apply Kd.R_drew)); exact HO416.out))) (below_size (by repeat (first | (with_reducible first | exact HB.out | apply below_alloc | apply pw_below_drewN | apply below_drew1 | refine below_set ?_ GE406.out | refine below_set ?_ GE407.out) | exact HB.out)))); have n5_ := Aside0.mk (blk_below (g := gb406) (o := .cells #[.slice A0_0 l0_0.length c0_0, .int .i64 a0_1, .int .i64 a0_2, .slice A0_3 l0_3.length c0_3] 116 (0, 0)) (by (with_reducible repeat (first | refine blk_drewN ?_ _ | refine blk_drew ?_ | refine blk_alloc ?_ _)); exact BK406.out) hb); have n6_ := Aside0.mk (blk_below (g := gb407) (o := .cells #[.int .i64 a1_0, .int .i64 a1_1, .int .i64 a1_2, .int .i64 a1_3] 118 (0, 0)) (by (with_reducible repeat (first | refine blk_drewN ?_ _ | refine blk_drew ?_ | refine blk_alloc ?_ _)); exact BK407.out) hb); have n7_ := Aside0.mk (below_step (by repeat (first | (with_reducible first | exact HB.out | apply below_alloc | apply pw_below_drewN | apply below_drew1 | refine below_set ?_ GE406.out | refine below_set ?_ GE407.out) | exact HB.out)) hb); clear HO411; clear HO416; clear HO423; clear BK406; clear BK407; clear HB; have HO411 := n0_; have HO416 := n1_; have HO423 := n2_; have HO426 := n3_; have HO431 := n4_; have BK406 := n5_; have BK407 := n6_; have HB := n7_; clear n0_ n1_ n2_ n3_ n4_ n5_ n6_ n7_; (try clear hb); (try clear hb2); (try clear hk); (try clear hi); (try clear ho0); (try clear ho1)) | ((with_reducible refine gate_dst (N := 9) rfl ?_); refine box_event ?hg (N := 9) ?hd (cs := #[.slice none 0 0, .int .i64 0, .int .i64 0, .slice none 0 0]) (t := 41) ?hr ?_; (case hd => rfl); (case hg => rfl); (case hr => first | (go_simp; done) | (go_simp; rfl)); intro gb432 hg w37 hbox hb; have n0_ := Aside0.mk (Kd.S_below (by (with_reducible repeat (first | apply Kd.S_alloc | apply Kd.S_drewN | apply Kd.S_drew)); exact HO411.out) hb); have n1_ := Aside0.mk (Kd.R_below (by (with_reducible repeat (first | apply Kd.R_alloc | apply Kd.R_drewN | apply Kd.R_drew)); exact HO416.out) hb); have n2_ := Aside0.mk (Kd.R_below (by (with_reducible repeat (first | apply Kd.R_alloc | apply Kd.R_drewN | apply Kd.R_drew)); exact HO423.out) hb); have n3_ := Aside0.mk (Kd.S_below (by (with_reducible repeat (first | apply Kd.S_alloc | apply Kd.S_drewN | apply Kd.S_drew)); exact HO426.out) hb); have n4_ := Aside0.mk (Kd.R_below (by (with_reducible repeat (first | apply Kd.R_alloc | apply Kd.R_drewN | apply Kd.R_drew)); exact HO431.out) hb); have n5_ := Aside0.mk (blk_below (g := gb406) (o := .cells #[.slice A0_0 l0_0.length c0_0, .int .i64 a0_1, .int .i64 a0_2, .slice A0_3 l0_3.length c0_3] 116 (0, 0)) (by (with_reducible repeat (first | refine blk_drewN ?_ _ | refine blk_drew ?_ | refine blk_alloc ?_ _)); exact BK406.out) hb); have n6_ := Aside0.mk (blk_below (g := gb407) (o := .cells #[.int .i64 a1_0, .int .i64 a1_1, .int .i64 a1_2, .int .i64 a1_3] 118 (0, 0)) (by (with_reducible repeat (first | refine blk_drewN ?_ _ | refine blk_drew ?_ | refine blk_alloc ?_ _)); exact BK407.out) hb); have n7_ := Aside0.mk (below_step (by repeat (first | (with_reducible first | exact HB.out | apply below_alloc | apply pw_below_drewN | apply below_drew1 | refine below_set ?_ GE406.out | refine below_set ?_ GE407.out) | exact HB.out)) hb); have n8_ := Aside0.mk (hbox); have n9_ := Aside0.mk ((by rw [hg]; exact (below_size (by repeat (first | (with_reducible first | exact HB.out | apply below_alloc | apply pw_below_drewN | apply below_drew1 | refine below_set ?_ GE406.out | refine below_set ?_ GE407.out) | exact HB.out))) : w.heap.size ≤ gb432)); have n10_ := Aside0.mk ((by rw [hg]; exact (below_size (by repeat (first | (with_reducible first | exact HB.out | apply below_alloc | apply pw_below_drewN | apply below_drew1 | refine below_set ?_ GE406.out | refine below_set ?_ GE407.out) | exact HB.out))) : w.heap.size ≤ gb432)); have n11_ := Aside0.mk ((by rw [hg]; exact Nat.ne_of_lt (blk_lt (g := gb406) (o := .cells #[.slice A0_0 l0_0.length c0_0, .int .i64 a0_1, .int .i64 a0_2, .slice A0_3 l0_3.length c0_3] 116 (0, 0)) (by (with_reducible repeat (first | refine blk_drewN ?_ _ | refine blk_drew ?_ | refine blk_alloc ?_ _)); exact BK406.out)) : gb406 ≠ gb432)); have n12_ := Aside0.mk ((by rw [hg]; exact Nat.ne_of_gt (blk_lt (g := gb406) (o := .cells #[.slice A0_0 l0_0.length c0_0, .int .i64 a0_1, .int .i64 a0_2, .slice A0_3 l0_3.length c0_3] 116 (0, 0)) (by (with_reducible repeat (first | refine blk_drewN ?_ _ | refine blk_drew ?_ | refine blk_alloc ?_ _)); exact BK406.out)) : gb432 ≠ gb406)); have n13_ := Aside0.mk ((by rw [hg]; exact Nat.ne_of_lt (blk_lt (g := gb407) (o := .cells #[.int .i64 a1_0, .int .i64 a1_1, .int .i64 a1_2, .int .i64 a1_3] 118 (0, 0)) (by (with_reducible repeat (first | refine blk_drewN ?_ _ | refine blk_drew ?_ | refine blk_alloc ?_ _)); exact BK407.out)) : gb407 ≠ gb432)); have n14_ := Aside0.mk ((by rw [hg]; exact Nat.ne_of_gt (blk_lt (g := gb407) (o := .cells #[.int .i64 a1_0, .int .i64 a1_1, .int .i64 a1_2, .int .i64 a1_3] 118 (0, 0)) (by (with_reducible repeat (first | refine blk_drewN ?_ _ | refine blk_drew ?_ | refine blk_alloc ?_ _)); exact BK407.out)) : gb432 ≠ gb407)); clear HO411; clear HO416; clear HO423; clear HO426; clear HO431; clear BK406; clear BK407; clear HB; have HO411 := n0_; have HO416 := n1_; have HO423 := n2_; have HO426 := n3_; have HO431 := n4_; have BK406 := n5_; have BK407 := n6_; have HB := n7_; have BK432 := n8_; have GW432 := n9_; have GE432 := n10_; have NB406_432 := n11_; have NB432_406 := n12_; have NB407_432 := n13_; have NB432_407 := n14_; clear n0_ n1_ n2_ n3_ n4_ n5_ n6_ n7_ n8_ n9_ n10_ n11_ n12_ n13_ n14_; clear hb hbox hg; obtain ⟨Ao38, co38, eo38⟩ := Kd.S_slice HO426.out; subst eo38; have hnb39 := NB432_406.out; have hnc39 := NB406_432.out; have hnb40 := NB432_407.out; have hnc40 := NB407_432.out; have hcz41_0 : w37.cell? ⟨gb432, 0, none⟩ = some (.slice none 0 0) := (blk_cell BK432.out 0).trans rfl; have hcz41_1 : w37.cell? ⟨gb432, 1, none⟩ = some (.int .i64 0) := (blk_cell BK432.out 1).trans rfl; have hcz41_2 : w37.cell? ⟨gb432, 2, none⟩ = some (.int .i64 0) := (blk_cell BK432.out 2).trans rfl; have hcz41_3 : w37.cell? ⟨gb432, 3, none⟩ = some (.slice none 0 0) := (blk_cell BK432.out 3).trans rfl; have hfz41_0 := blk_frozen BK432.out 0; have hfz41_1 := blk_frozen BK432.out 1; have hfz41_2 := blk_frozen BK432.out 2; have hfz41_3 := blk_frozen BK432.out 3; obtain ⟨Ao42, co42, eo42⟩ := Kd.R_slice HO431.out; subst eo42))
    have n0_ : Aside0 (Kd.S k179 179 ((((w37.setCell ⟨gb432, 0, none⟩ (.slice Ao38 t424.length co38)).setCell ⟨gb432, 1, none⟩ (.int .i64 t427)).setCell ⟨gb432, 2, none⟩ (.int .i64 t428)).setCell ⟨gb432, 3, none⟩ (.slice Ao42 t429.length co42)) w.heap.size (fun k_ => some k_ ≠ (.slice Ao33 t414.length co33 : Value).ownBlock ∧ some k_ ≠ (.slice Ao38 t424.length co38 : Value).ownBlock ∧ some k_ ≠ (.slice Ao42 t429.length co42 : Value).ownBlock) (.slice Ao32 t409.length co32) t409) := ⟨by (with_reducible repeat (first | apply Kd.S_alloc | apply Kd.S_drewN | apply Kd.S_drew)); exact Kd.S_mono (Kd.S_far (p := ⟨gb432, 3, none⟩) (Kd.S_far (p := ⟨gb432, 2, none⟩) (Kd.S_far (p := ⟨gb432, 1, none⟩) (Kd.S_far (p := ⟨gb432, 0, none⟩) (Kd.S_types HO411.out BK432.out (by decide)) (fun _ hk => by first | exact hk.2 | simp_all) (.slice Ao38 t424.length co38)) (fun _ hk => by first | exact hk.2 | simp_all) (.int .i64 t427)) (fun _ hk => by first | exact hk.2 | simp_all) (.int .i64 t428)) (fun _ hk => by first | exact hk.2 | simp_all) (.slice Ao42 t429.length co42)) (fun _ hk => ⟨hk.1.1.1, ⟨hk.1.1.2, hk.1.2⟩⟩)⟩
    have n1_ : Aside0 (Kd.R (Kd.int .i64) 3 ((((w37.setCell ⟨gb432, 0, none⟩ (.slice Ao38 t424.length co38)).setCell ⟨gb432, 1, none⟩ (.int .i64 t427)).setCell ⟨gb432, 2, none⟩ (.int .i64 t428)).setCell ⟨gb432, 3, none⟩ (.slice Ao42 t429.length co42)) w.heap.size (fun k_ => some k_ ≠ (.slice Ao42 t429.length co42 : Value).ownBlock) (.slice Ao33 t414.length co33) t414) := ⟨by (with_reducible repeat (first | apply Kd.R_alloc | apply Kd.R_drewN | apply Kd.R_drew)); exact Kd.R_mono (Kd.R_far (p := ⟨gb432, 3, none⟩) (Kd.R_far (p := ⟨gb432, 2, none⟩) (Kd.R_far (p := ⟨gb432, 1, none⟩) (Kd.R_far (p := ⟨gb432, 0, none⟩) (Kd.R_types HO416.out BK432.out (by decide)) (fun _ hk => by first | exact hk.2 | simp_all) (.slice Ao38 t424.length co38)) (fun _ hk => by first | exact hk.2 | simp_all) (.int .i64 t427)) (fun _ hk => by first | exact hk.2 | simp_all) (.int .i64 t428)) (fun _ hk => by first | exact hk.2 | simp_all) (.slice Ao42 t429.length co42)) (fun _ hk => by first | exact hk.1.2 | simp_all)⟩
    have n2_ : Aside0 (Kd.R k31 31 ((((w37.setCell ⟨gb432, 0, none⟩ (.slice Ao38 t424.length co38)).setCell ⟨gb432, 1, none⟩ (.int .i64 t427)).setCell ⟨gb432, 2, none⟩ (.int .i64 t428)).setCell ⟨gb432, 3, none⟩ (.slice Ao42 t429.length co42)) w.heap.size (fun _ => True) v422 t421) := ⟨by (with_reducible repeat (first | apply Kd.R_alloc | apply Kd.R_drewN | apply Kd.R_drew)); exact Kd.R_mono (Kd.R_far (p := ⟨gb432, 3, none⟩) (Kd.R_far (p := ⟨gb432, 2, none⟩) (Kd.R_far (p := ⟨gb432, 1, none⟩) (Kd.R_far (p := ⟨gb432, 0, none⟩) (Kd.R_types HO423.out BK432.out (by decide)) (fun _ hk => by first | exact hk.2 | simp_all) (.slice Ao38 t424.length co38)) (fun _ hk => by first | exact hk.2 | simp_all) (.int .i64 t427)) (fun _ hk => by first | exact hk.2 | simp_all) (.int .i64 t428)) (fun _ hk => by first | exact hk.2 | simp_all) (.slice Ao42 t429.length co42)) (fun _ hk => trivial)⟩
    have n3_ : Aside0 (Kd.S k179 179 ((((w37.setCell ⟨gb432, 0, none⟩ (.slice Ao38 t424.length co38)).setCell ⟨gb432, 1, none⟩ (.int .i64 t427)).setCell ⟨gb432, 2, none⟩ (.int .i64 t428)).setCell ⟨gb432, 3, none⟩ (.slice Ao42 t429.length co42)) w.heap.size (fun k_ => some k_ ≠ (.slice Ao32 t409.length co32 : Value).ownBlock ∧ some k_ ≠ (.slice Ao33 t414.length co33 : Value).ownBlock ∧ some k_ ≠ (.slice Ao42 t429.length co42 : Value).ownBlock) (.slice Ao38 t424.length co38) t424) := ⟨by (with_reducible repeat (first | apply Kd.S_alloc | apply Kd.S_drewN | apply Kd.S_drew)); exact Kd.S_mono (Kd.S_far (p := ⟨gb432, 3, none⟩) (Kd.S_far (p := ⟨gb432, 2, none⟩) (Kd.S_far (p := ⟨gb432, 1, none⟩) (Kd.S_far (p := ⟨gb432, 0, none⟩) (Kd.S_types HO426.out BK432.out (by decide)) (fun _ hk => by first | exact hk.2 | simp_all) (.slice Ao38 t424.length co38)) (fun _ hk => by first | exact hk.2 | simp_all) (.int .i64 t427)) (fun _ hk => by first | exact hk.2 | simp_all) (.int .i64 t428)) (fun _ hk => by first | exact hk.2 | simp_all) (.slice Ao42 t429.length co42)) (fun _ hk => ⟨hk.1.1.2, ⟨hk.1.2, hk.1.1.1⟩⟩)⟩
    have n4_ : Aside0 (Kd.R (Kd.int .i64) 3 ((((w37.setCell ⟨gb432, 0, none⟩ (.slice Ao38 t424.length co38)).setCell ⟨gb432, 1, none⟩ (.int .i64 t427)).setCell ⟨gb432, 2, none⟩ (.int .i64 t428)).setCell ⟨gb432, 3, none⟩ (.slice Ao42 t429.length co42)) w.heap.size (fun k_ => some k_ ≠ (.slice Ao33 t414.length co33 : Value).ownBlock) (.slice Ao42 t429.length co42) t429) := ⟨by (with_reducible repeat (first | apply Kd.R_alloc | apply Kd.R_drewN | apply Kd.R_drew)); exact Kd.R_mono (Kd.R_far (p := ⟨gb432, 3, none⟩) (Kd.R_far (p := ⟨gb432, 2, none⟩) (Kd.R_far (p := ⟨gb432, 1, none⟩) (Kd.R_far (p := ⟨gb432, 0, none⟩) (Kd.R_types HO431.out BK432.out (by decide)) (fun _ hk => by first | exact hk.2 | simp_all) (.slice Ao38 t424.length co38)) (fun _ hk => by first | exact hk.2 | simp_all) (.int .i64 t427)) (fun _ hk => by first | exact hk.2 | simp_all) (.int .i64 t428)) (fun _ hk => by first | exact hk.2 | simp_all) (.slice Ao42 t429.length co42)) (fun _ hk => by first | exact hk.1.2 | simp_all)⟩
    have n5_ : Aside0 (((((w37.setCell ⟨gb432, 0, none⟩ (.slice Ao38 t424.length co38)).setCell ⟨gb432, 1, none⟩ (.int .i64 t427)).setCell ⟨gb432, 2, none⟩ (.int .i64 t428)).setCell ⟨gb432, 3, none⟩ (.slice Ao42 t429.length co42)).heap[gb406]? = some (.cells #[.slice A0_0 l0_0.length c0_0, .int .i64 a0_1, .int .i64 a0_2, .slice A0_3 l0_3.length c0_3] 116 (0, 0))) := ⟨by (with_reducible repeat (first | refine blk_drewN ?_ _ | refine blk_drew ?_ | refine blk_alloc ?_ _)); refine blk_far ?_ NB406_432.out _; (with_reducible repeat (first | refine blk_drewN ?_ _ | refine blk_drew ?_ | refine blk_alloc ?_ _)); refine blk_far ?_ NB406_432.out _; (with_reducible repeat (first | refine blk_drewN ?_ _ | refine blk_drew ?_ | refine blk_alloc ?_ _)); refine blk_far ?_ NB406_432.out _; (with_reducible repeat (first | refine blk_drewN ?_ _ | refine blk_drew ?_ | refine blk_alloc ?_ _)); refine blk_far ?_ NB406_432.out _; (with_reducible repeat (first | refine blk_drewN ?_ _ | refine blk_drew ?_ | refine blk_alloc ?_ _)); exact BK406.out⟩
    have n6_ : Aside0 (((((w37.setCell ⟨gb432, 0, none⟩ (.slice Ao38 t424.length co38)).setCell ⟨gb432, 1, none⟩ (.int .i64 t427)).setCell ⟨gb432, 2, none⟩ (.int .i64 t428)).setCell ⟨gb432, 3, none⟩ (.slice Ao42 t429.length co42)).heap[gb407]? = some (.cells #[.int .i64 a1_0, .int .i64 a1_1, .int .i64 a1_2, .int .i64 a1_3] 118 (0, 0))) := ⟨by (with_reducible repeat (first | refine blk_drewN ?_ _ | refine blk_drew ?_ | refine blk_alloc ?_ _)); refine blk_far ?_ NB407_432.out _; (with_reducible repeat (first | refine blk_drewN ?_ _ | refine blk_drew ?_ | refine blk_alloc ?_ _)); refine blk_far ?_ NB407_432.out _; (with_reducible repeat (first | refine blk_drewN ?_ _ | refine blk_drew ?_ | refine blk_alloc ?_ _)); refine blk_far ?_ NB407_432.out _; (with_reducible repeat (first | refine blk_drewN ?_ _ | refine blk_drew ?_ | refine blk_alloc ?_ _)); refine blk_far ?_ NB407_432.out _; (with_reducible repeat (first | refine blk_drewN ?_ _ | refine blk_drew ?_ | refine blk_alloc ?_ _)); exact BK407.out⟩
    have n7_ : Aside0 (((((w37.setCell ⟨gb432, 0, none⟩ (.slice Ao38 t424.length co38)).setCell ⟨gb432, 1, none⟩ (.int .i64 t427)).setCell ⟨gb432, 2, none⟩ (.int .i64 t428)).setCell ⟨gb432, 3, none⟩ (.slice Ao42 t429.length co42)).heap[gb432]? = some (.cells #[.slice Ao38 t424.length co38, .int .i64 t427, .int .i64 t428, .slice Ao42 t429.length co42] 41 (0, 0))) := ⟨by (with_reducible repeat (first | refine blk_drewN ?_ _ | refine blk_drew ?_ | refine blk_alloc ?_ _)); refine blk_put (cs := #[.slice Ao38 t424.length co38, .int .i64 t427, .int .i64 t428, .slice none 0 0]) ?_ 3 _ rfl; (with_reducible repeat (first | refine blk_drewN ?_ _ | refine blk_drew ?_ | refine blk_alloc ?_ _)); refine blk_put (cs := #[.slice Ao38 t424.length co38, .int .i64 t427, .int .i64 0, .slice none 0 0]) ?_ 2 _ rfl; (with_reducible repeat (first | refine blk_drewN ?_ _ | refine blk_drew ?_ | refine blk_alloc ?_ _)); refine blk_put (cs := #[.slice Ao38 t424.length co38, .int .i64 0, .int .i64 0, .slice none 0 0]) ?_ 1 _ rfl; (with_reducible repeat (first | refine blk_drewN ?_ _ | refine blk_drew ?_ | refine blk_alloc ?_ _)); refine blk_put (cs := #[.slice none 0 0, .int .i64 0, .int .i64 0, .slice none 0 0]) ?_ 0 _ rfl; (with_reducible repeat (first | refine blk_drewN ?_ _ | refine blk_drew ?_ | refine blk_alloc ?_ _)); exact BK432.out⟩
    have n8_ : Aside0 (Below w.heap.size w ((((w37.setCell ⟨gb432, 0, none⟩ (.slice Ao38 t424.length co38)).setCell ⟨gb432, 1, none⟩ (.int .i64 t427)).setCell ⟨gb432, 2, none⟩ (.int .i64 t428)).setCell ⟨gb432, 3, none⟩ (.slice Ao42 t429.length co42))) := ⟨by repeat (first | (with_reducible first | exact HB.out | apply below_alloc | apply pw_below_drewN | apply below_drew1 | refine below_set ?_ GE406.out | refine below_set ?_ GE407.out | refine below_set ?_ GE432.out) | exact HB.out)⟩
    (try clear HO411)
    (try clear HO416)
    (try clear HO423)
    (try clear HO426)
    (try clear HO431)
    (try clear BK406)
    (try clear BK407)
    (try clear BK432)
    (try clear HB)
    generalize ((((w37.setCell ⟨gb432, 0, none⟩ (.slice Ao38 t424.length co38)).setCell ⟨gb432, 1, none⟩ (.int .i64 t427)).setCell ⟨gb432, 2, none⟩ (.int .i64 t428)).setCell ⟨gb432, 3, none⟩ (.slice Ao42 t429.length co42)) = w43 at n0_ n1_ n2_ n3_ n4_ n5_ n6_ n7_ n8_ ⊢
    have HO411 := n0_
    have HO416 := n1_
    have HO423 := n2_
    have HO426 := n3_
    have HO431 := n4_
    have BK406 := n5_
    have BK407 := n6_
    have BK432 := n7_
    have HB := n8_
    clear n0_ n1_ n2_ n3_ n4_ n5_ n6_ n7_ n8_
    have n0_ := Aside0.mk (Kd.S_drew HO411.out)
    have n1_ := Aside0.mk (Kd.R_drew HO416.out)
    have n2_ := Aside0.mk (Kd.R_drew HO423.out)
    have n3_ := Aside0.mk (Kd.S_drew HO426.out)
    have n4_ := Aside0.mk (Kd.R_drew HO431.out)
    have n5_ := Aside0.mk (blk_drew BK406.out)
    have n6_ := Aside0.mk (blk_drew BK407.out)
    have n7_ := Aside0.mk (blk_drew BK432.out)
    have n8_ := Aside0.mk (below_drew1 HB.out)
    clear HO411
    clear HO416
    clear HO423
    clear HO426
    clear HO431
    clear BK406
    clear BK407
    clear BK432
    clear HB
    have HO411 := n0_
    have HO416 := n1_
    have HO423 := n2_
    have HO426 := n3_
    have HO431 := n4_
    have BK406 := n5_
    have BK407 := n6_
    have BK432 := n7_
    have HB := n8_
    clear n0_ n1_ n2_ n3_ n4_ n5_ n6_ n7_ n8_
    refine start_ (n := 6) (S := fun w' => w'.cell? ⟨gb432, 0, none⟩ = some (.slice Ao38 t424.length co38) ∧ w'.cell? ⟨gb432, 1, none⟩ = some (.int .i64 t427) ∧ w'.cell? ⟨gb432, 2, none⟩ = some (.int .i64 t428) ∧ w'.cell? ⟨gb432, 3, none⟩ = some (.slice Ao42 t429.length co42) ∧ w'.cell? ⟨gb407, 0, none⟩ = some (.int .i64 a1_0) ∧ w'.cell? ⟨gb407, 1, none⟩ = some (.int .i64 a1_1) ∧ w'.cell? ⟨gb407, 2, none⟩ = some (.int .i64 a1_2) ∧ w'.cell? ⟨gb407, 3, none⟩ = some (.int .i64 a1_3)) (ds := []) #[false, false, false, false, false, false] (by kernel_rfl) rfl rfl ⟨(blk_cell BK432.out 0).trans rfl, (blk_cell BK432.out 1).trans rfl, (blk_cell BK432.out 2).trans rfl, (blk_cell BK432.out 3).trans rfl, (blk_cell BK407.out 0).trans rfl, (blk_cell BK407.out 1).trans rfl, (blk_cell BK407.out 2).trans rfl, (blk_cell BK407.out 3).trans rfl⟩ (fun hHeld => ?_)
    generalize w43.drew = w44 at HO411 HO416 HO423 HO426 HO431 BK406 BK407 BK432 HB hHeld ⊢
    refine pure_ (i := 3) (N := some 31) (v := ?_) (a' := ?_) #[false, false, false, true, false, false] rfl rfl (by kernel_rfl) (fun _ _ _ h => h) (Or.inl ⟨by rfl, ?_⟩) ?_ ?_
    rotate_left
    ·intro w'
     go_simp
     with_reducible rfl
    rotate_left
    ·simp only [Act.put, List.setIfInBounds_toArray, List.set_cons_zero, List.set_cons_succ, i64_w, i32_w]
     rfl
    refine take_ (i := 0) (N := some 28) (v := ?_) (a' := ?_) #[true, false, false, true, false, false] rfl rfl (by kernel_rfl) (fun _ _ _ h => h) (Or.inl ⟨by rfl, ?_⟩) hHeld ?_ ?_
    rotate_left
    ·rintro w' ⟨s0, s1, s2, s3, s4, s5, s6, s7⟩
     go_simp
     with_reducible rfl
    rotate_left
    ·simp only [Act.put, List.setIfInBounds_toArray, List.set_cons_zero, List.set_cons_succ, i64_w, i32_w]
     rfl
    refine take_ (i := 1) (N := some 29) (v := ?_) (a' := ?_) #[true, true, false, true, false, false] rfl rfl (by kernel_rfl) (fun _ _ _ h => h) (Or.inl ⟨by rfl, ?_⟩) hHeld ?_ ?_
    rotate_left
    ·rintro w' ⟨s0, s1, s2, s3, s4, s5, s6, s7⟩
     go_simp
     with_reducible rfl
    rotate_left
    ·simp only [Act.put, List.setIfInBounds_toArray, List.set_cons_zero, List.set_cons_succ, i64_w, i32_w]
     rfl
    refine one_ (i := 2) (N := some 30) #[true, true, true, true, false, false] rfl rfl (by kernel_rfl) (by decide) (fun K hK => ?_)
    refine goes_ Try.func76 (by kernel_rfl) rfl #[.agg #[.int .i64 a1_0, .int .i64 a1_1, .int .i64 a1_2, .int .i64 a1_3]] (by rfl) rfl rfl (by (try simp only [List.map_toArray, List.map_cons, List.map_nil]); first | done | rfl | (simp only [List.length_drop, List.length_take]; rfl)) ?_
    with_reducible refine (laws_toWant.calls a1_0 a1_1 a1_2 a1_3 t433 t434 t435 t436 _ A15.out).mono ?_
    rintro e w45 ⟨rfl, hb⟩
    refine ⟨_, rfl, ?_⟩
    have n0_ := Aside0.mk (Kd.S_below (by (with_reducible repeat (first | apply Kd.S_alloc | apply Kd.S_drewN | apply Kd.S_drew)); exact HO411.out) hb)
    have n1_ := Aside0.mk (Kd.R_below (by (with_reducible repeat (first | apply Kd.R_alloc | apply Kd.R_drewN | apply Kd.R_drew)); exact HO416.out) hb)
    have n2_ := Aside0.mk (Kd.R_below (by (with_reducible repeat (first | apply Kd.R_alloc | apply Kd.R_drewN | apply Kd.R_drew)); exact HO423.out) hb)
    have n3_ := Aside0.mk (Kd.S_below (by (with_reducible repeat (first | apply Kd.S_alloc | apply Kd.S_drewN | apply Kd.S_drew)); exact HO426.out) hb)
    have n4_ := Aside0.mk (Kd.R_below (by (with_reducible repeat (first | apply Kd.R_alloc | apply Kd.R_drewN | apply Kd.R_drew)); exact HO431.out) hb)
    have n5_ := Aside0.mk (blk_below (g := gb406) (o := .cells #[.slice A0_0 l0_0.length c0_0, .int .i64 a0_1, .int .i64 a0_2, .slice A0_3 l0_3.length c0_3] 116 (0, 0)) (by (with_reducible repeat (first | refine blk_drewN ?_ _ | refine blk_drew ?_ | refine blk_alloc ?_ _)); exact BK406.out) hb)
    have n6_ := Aside0.mk (blk_below (g := gb407) (o := .cells #[.int .i64 a1_0, .int .i64 a1_1, .int .i64 a1_2, .int .i64 a1_3] 118 (0, 0)) (by (with_reducible repeat (first | refine blk_drewN ?_ _ | refine blk_drew ?_ | refine blk_alloc ?_ _)); exact BK407.out) hb)
    have n7_ := Aside0.mk (blk_below (g := gb432) (o := .cells #[.slice Ao38 t424.length co38, .int .i64 t427, .int .i64 t428, .slice Ao42 t429.length co42] 41 (0, 0)) (by (with_reducible repeat (first | refine blk_drewN ?_ _ | refine blk_drew ?_ | refine blk_alloc ?_ _)); exact BK432.out) hb)
    have n8_ := Aside0.mk (below_step (by repeat (first | (with_reducible first | exact HB.out | apply below_alloc | apply pw_below_drewN | apply below_drew1 | refine below_set ?_ GE406.out | refine below_set ?_ GE407.out | refine below_set ?_ GE432.out) | exact HB.out)) hb)
    clear HO411
    clear HO416
    clear HO423
    clear HO426
    clear HO431
    clear BK406
    clear BK407
    clear BK432
    clear HB
    have HO411 := n0_
    have HO416 := n1_
    have HO423 := n2_
    have HO426 := n3_
    have HO431 := n4_
    have BK406 := n5_
    have BK407 := n6_
    have BK432 := n7_
    have HB := n8_
    clear n0_ n1_ n2_ n3_ n4_ n5_ n6_ n7_ n8_
    (try clear hb)
    (try clear hb2)
    (try clear hk)
    (try clear hi)
    refine hK.out _ _ ⟨(blk_cell BK432.out 0).trans rfl, (blk_cell BK432.out 1).trans rfl, (blk_cell BK432.out 2).trans rfl, (blk_cell BK432.out 3).trans rfl, (blk_cell BK407.out 0).trans rfl, (blk_cell BK407.out 1).trans rfl, (blk_cell BK407.out 2).trans rfl, (blk_cell BK407.out 3).trans rfl⟩ (fun hHeld => ?_)
    clear hK K
    refine norm_ (a' := ?_) ?_ ?_
    rotate_left
    ·show Act.put _ (some 30) _ = _
     simp only [Act.put, List.setIfInBounds_toArray, List.set_cons_zero, List.set_cons_succ, i64_w, i32_w]
     rfl
    refine one_ (i := 4) (N := some 32) #[true, true, true, true, true, false] rfl rfl (by kernel_rfl) (by decide) (fun K hK => ?_)
    refine goes_ Try.func26 (by kernel_rfl) rfl #[.agg #[.slice Ao38 t424.length co38, .int .i64 t427, .int .i64 t428, .slice Ao42 t429.length co42], .agg #[.int .i64 t433, .int .i64 t434, .int .i64 t435, .int .i64 t436], .int .i64 a2] (by rfl) rfl rfl (by (try simp only [List.map_toArray, List.map_cons, List.map_nil]); first | done | rfl | (simp only [List.length_drop, List.length_take]; rfl)) ?_
    with_reducible refine (impl_AddressesFrom.calls k _ _ t424 t427 t428 _ _ t429 t433 t434 t435 t436 a2 t437 _ ?side1 ?side2 ?side3 ?side4 A16.out).mono ?_
    (case side1 => repeat (first | exact (Kd.S_reads' HO426.out).2.2 | (with_reducible refine Kd.C_alloc ?_ _) | (with_reducible refine Kd.C_drewN ?_ _) | (with_reducible refine Kd.C_drew ?_)))
    (case side2 => exact (Kd.S_reads' HO426.out).2.1)
    (case side3 => repeat (first | exact (Kd.R_reads' HO431.out).2.2 | (with_reducible refine Kd.C_alloc ?_ _) | (with_reducible refine Kd.C_drewN ?_ _) | (with_reducible refine Kd.C_drew ?_)))
    (case side4 => exact (Kd.R_reads' HO431.out).2.1)
    rintro e w46 ⟨v438, rfl, ho0, hb⟩
    refine ⟨_, rfl, ?_⟩
    have n0_ := Aside0.mk (Kd.S_below (by (with_reducible repeat (first | apply Kd.S_alloc | apply Kd.S_drewN | apply Kd.S_drew)); exact HO411.out) hb)
    have n1_ := Aside0.mk (Kd.R_below (by (with_reducible repeat (first | apply Kd.R_alloc | apply Kd.R_drewN | apply Kd.R_drew)); exact HO416.out) hb)
    have n2_ := Aside0.mk (Kd.R_elder' (by (with_reducible repeat (first | apply Kd.R_alloc | apply Kd.R_drewN | apply Kd.R_drew)); exact HO423.out) (Kd.R_base ho0) hb)
    have n3_ := Aside0.mk (Kd.S_below (by (with_reducible repeat (first | apply Kd.S_alloc | apply Kd.S_drewN | apply Kd.S_drew)); exact HO426.out) hb)
    have n4_ := Aside0.mk (Kd.R_below (by (with_reducible repeat (first | apply Kd.R_alloc | apply Kd.R_drewN | apply Kd.R_drew)); exact HO431.out) hb)
    have n5_ := Aside0.mk (Kd.R_lower (Kd.R_new' ho0 (Kd.R_lt (by (with_reducible repeat (first | apply Kd.R_alloc | apply Kd.R_drewN | apply Kd.R_drew)); exact HO423.out))) (below_size (by repeat (first | (with_reducible first | exact HB.out | apply below_alloc | apply pw_below_drewN | apply below_drew1 | refine below_set ?_ GE406.out | refine below_set ?_ GE407.out | refine below_set ?_ GE432.out) | exact HB.out))))
    have n6_ := Aside0.mk (blk_below (g := gb406) (o := .cells #[.slice A0_0 l0_0.length c0_0, .int .i64 a0_1, .int .i64 a0_2, .slice A0_3 l0_3.length c0_3] 116 (0, 0)) (by (with_reducible repeat (first | refine blk_drewN ?_ _ | refine blk_drew ?_ | refine blk_alloc ?_ _)); exact BK406.out) hb)
    have n7_ := Aside0.mk (blk_below (g := gb407) (o := .cells #[.int .i64 a1_0, .int .i64 a1_1, .int .i64 a1_2, .int .i64 a1_3] 118 (0, 0)) (by (with_reducible repeat (first | refine blk_drewN ?_ _ | refine blk_drew ?_ | refine blk_alloc ?_ _)); exact BK407.out) hb)
    have n8_ := Aside0.mk (blk_below (g := gb432) (o := .cells #[.slice Ao38 t424.length co38, .int .i64 t427, .int .i64 t428, .slice Ao42 t429.length co42] 41 (0, 0)) (by (with_reducible repeat (first | refine blk_drewN ?_ _ | refine blk_drew ?_ | refine blk_alloc ?_ _)); exact BK432.out) hb)
    have n9_ := Aside0.mk (below_step (by repeat (first | (with_reducible first | exact HB.out | apply below_alloc | apply pw_below_drewN | apply below_drew1 | refine below_set ?_ GE406.out | refine below_set ?_ GE407.out | refine below_set ?_ GE432.out) | exact HB.out)) hb)
    clear HO411
    clear HO416
    clear HO423
    clear HO426
    clear HO431
    clear BK406
    clear BK407
    clear BK432
    clear HB
    have HO411 := n0_
    have HO416 := n1_
    have HO423 := n2_
    have HO426 := n3_
    have HO431 := n4_
    have HO439 := n5_
    have BK406 := n6_
    have BK407 := n7_
    have BK432 := n8_
    have HB := n9_
    clear n0_ n1_ n2_ n3_ n4_ n5_ n6_ n7_ n8_ n9_
    (try clear hb)
    (try clear hb2)
    (try clear hk)
    (try clear hi)
    (try clear ho0)
    refine hK.out _ _ ⟨(blk_cell BK432.out 0).trans rfl, (blk_cell BK432.out 1).trans rfl, (blk_cell BK432.out 2).trans rfl, (blk_cell BK432.out 3).trans rfl, (blk_cell BK407.out 0).trans rfl, (blk_cell BK407.out 1).trans rfl, (blk_cell BK407.out 2).trans rfl, (blk_cell BK407.out 3).trans rfl⟩ (fun hHeld => ?_)
    clear hK K
    refine norm_ (a' := ?_) ?_ ?_
    rotate_left
    ·show Act.put _ (some 32) _ = _
     simp only [Act.put, List.setIfInBounds_toArray, List.set_cons_zero, List.set_cons_succ, i64_w, i32_w]
     rfl
    refine pure_ (i := 5) (N := some 10) (v := ?_) (a' := ?_) #[true, true, true, true, true, true] rfl rfl (by kernel_rfl) (fun _ _ _ h => h) (Or.inl ⟨by rfl, ?_⟩) ?_ ?_
    rotate_left
    ·intro w'
     go_simp
     with_reducible rfl
    rotate_left
    ·simp only [Act.put, List.setIfInBounds_toArray, List.set_cons_zero, List.set_cons_succ, i64_w, i32_w]
     rfl
    refine done_ (by kernel_rfl) ?_
    obtain ⟨Ao47, co47, eo47⟩ := Kd.R_slice HO439.out
    subst eo47
    obtain ⟨Ao48, co48, eo48⟩ := Kd.R_slice HO423.out
    subst eo48
    try go_wp2_with (first | ((with_reducible refine gate_callee (f := 77) rfl ?_); refine goesL_ (some 35) rfl rfl Try.func77 (by kernel_rfl) rfl #[.slice Ao47 t437.length co47, .slice Ao48 t421.length co48] rfl (by (try simp only [List.map_toArray, List.map_cons, List.map_nil]); first | done | rfl | (simp only [List.length_drop, List.length_take]; rfl)) ?_; (with_reducible refine (laws_eqAddressS.calls k _ _ t437 _ _ t421 true _ ?side1 ?side2 ?side3 ?side4 A17.out).mono ?_); (case side1 => repeat (first | exact (Kd.R_reads' HO439.out).2.2 | (with_reducible refine Kd.C_alloc ?_ _) | (with_reducible refine Kd.C_drewN ?_ _) | (with_reducible refine Kd.C_drew ?_))); (case side2 => exact (Kd.R_reads' HO439.out).2.1); (case side3 => repeat (first | exact (Kd.R_reads' HO423.out).2.2 | (with_reducible refine Kd.C_alloc ?_ _) | (with_reducible refine Kd.C_drewN ?_ _) | (with_reducible refine Kd.C_drew ?_))); (case side4 => exact (Kd.R_reads' HO423.out).2.1); rintro e w49 ⟨rfl, hb⟩; refine ⟨_, rfl, ?_⟩; have n0_ := Aside0.mk (Kd.S_below (by (with_reducible repeat (first | apply Kd.S_alloc | apply Kd.S_drewN | apply Kd.S_drew)); exact HO411.out) hb); have n1_ := Aside0.mk (Kd.R_below (by (with_reducible repeat (first | apply Kd.R_alloc | apply Kd.R_drewN | apply Kd.R_drew)); exact HO416.out) hb); have n2_ := Aside0.mk (Kd.R_below (by (with_reducible repeat (first | apply Kd.R_alloc | apply Kd.R_drewN | apply Kd.R_drew)); exact HO423.out) hb); have n3_ := Aside0.mk (Kd.S_below (by (with_reducible repeat (first | apply Kd.S_alloc | apply Kd.S_drewN | apply Kd.S_drew)); exact HO426.out) hb); have n4_ := Aside0.mk (Kd.R_below (by (with_reducible repeat (first | apply Kd.R_alloc | apply Kd.R_drewN | apply Kd.R_drew)); exact HO431.out) hb); have n5_ := Aside0.mk (Kd.R_below (by (with_reducible repeat (first | apply Kd.R_alloc | apply Kd.R_drewN | apply Kd.R_drew)); exact HO439.out) hb); have n6_ := Aside0.mk (blk_below (g := gb406) (o := .cells #[.slice A0_0 l0_0.length c0_0, .int .i64 a0_1, .int .i64 a0_2, .slice A0_3 l0_3.length c0_3] 116 (0, 0)) (by (with_reducible repeat (first | refine blk_drewN ?_ _ | refine blk_drew ?_ | refine blk_alloc ?_ _)); exact BK406.out) hb); have n7_ := Aside0.mk (blk_below (g := gb407) (o := .cells #[.int .i64 a1_0, .int .i64 a1_1, .int .i64 a1_2, .int .i64 a1_3] 118 (0, 0)) (by (with_reducible repeat (first | refine blk_drewN ?_ _ | refine blk_drew ?_ | refine blk_alloc ?_ _)); exact BK407.out) hb); have n8_ := Aside0.mk (blk_below (g := gb432) (o := .cells #[.slice Ao38 t424.length co38, .int .i64 t427, .int .i64 t428, .slice Ao42 t429.length co42] 41 (0, 0)) (by (with_reducible repeat (first | refine blk_drewN ?_ _ | refine blk_drew ?_ | refine blk_alloc ?_ _)); exact BK432.out) hb); have n9_ := Aside0.mk (below_step (by repeat (first | (with_reducible first | exact HB.out | apply below_alloc | apply pw_below_drewN | apply below_drew1 | refine below_set ?_ GE406.out | refine below_set ?_ GE407.out | refine below_set ?_ GE432.out) | exact HB.out)) hb); clear HO411; clear HO416; clear HO423; clear HO426; clear HO431; clear HO439; clear BK406; clear BK407; clear BK432; clear HB; have HO411 := n0_; have HO416 := n1_; have HO423 := n2_; have HO426 := n3_; have HO431 := n4_; have HO439 := n5_; have BK406 := n6_; have BK407 := n7_; have BK432 := n8_; have HB := n9_; clear n0_ n1_ n2_ n3_ n4_ n5_ n6_ n7_ n8_ n9_; (try clear hb); (try clear hb2); (try clear hk); (try clear hi)))
    have n0_ := Aside0.mk (Kd.S_drew HO411.out)
    have n1_ := Aside0.mk (Kd.R_drew HO416.out)
    have n2_ := Aside0.mk (Kd.R_drew HO423.out)
    have n3_ := Aside0.mk (Kd.S_drew HO426.out)
    have n4_ := Aside0.mk (Kd.R_drew HO431.out)
    have n5_ := Aside0.mk (Kd.R_drew HO439.out)
    have n6_ := Aside0.mk (blk_drew BK406.out)
    have n7_ := Aside0.mk (blk_drew BK407.out)
    have n8_ := Aside0.mk (blk_drew BK432.out)
    have n9_ := Aside0.mk (below_drew1 HB.out)
    clear HO411
    clear HO416
    clear HO423
    clear HO426
    clear HO431
    clear HO439
    clear BK406
    clear BK407
    clear BK432
    clear HB
    have HO411 := n0_
    have HO416 := n1_
    have HO423 := n2_
    have HO426 := n3_
    have HO431 := n4_
    have HO439 := n5_
    have BK406 := n6_
    have BK407 := n7_
    have BK432 := n8_
    have HB := n9_
    clear n0_ n1_ n2_ n3_ n4_ n5_ n6_ n7_ n8_ n9_
    refine start_ (n := 5) (S := fun w' => w'.cell? ⟨gb432, 0, none⟩ = some (.slice Ao38 t424.length co38) ∧ w'.cell? ⟨gb432, 1, none⟩ = some (.int .i64 t427) ∧ w'.cell? ⟨gb432, 2, none⟩ = some (.int .i64 t428) ∧ w'.cell? ⟨gb432, 3, none⟩ = some (.slice Ao42 t429.length co42) ∧ w'.cell? ⟨gb406, 0, none⟩ = some (.slice A0_0 l0_0.length c0_0) ∧ w'.cell? ⟨gb406, 1, none⟩ = some (.int .i64 a0_1) ∧ w'.cell? ⟨gb406, 2, none⟩ = some (.int .i64 a0_2) ∧ w'.cell? ⟨gb406, 3, none⟩ = some (.slice A0_3 l0_3.length c0_3)) (ds := []) #[false, false, false, false, false] (by kernel_rfl) rfl rfl ⟨(blk_cell BK432.out 0).trans rfl, (blk_cell BK432.out 1).trans rfl, (blk_cell BK432.out 2).trans rfl, (blk_cell BK432.out 3).trans rfl, (blk_cell BK406.out 0).trans rfl, (blk_cell BK406.out 1).trans rfl, (blk_cell BK406.out 2).trans rfl, (blk_cell BK406.out 3).trans rfl⟩ (fun hHeld => ?_)
    generalize w49.drew = w50 at HO411 HO416 HO423 HO426 HO431 HO439 BK406 BK407 BK432 HB hHeld ⊢
    refine take_ (i := 0) (N := some 37) (v := ?_) (a' := ?_) #[true, false, false, false, false] rfl rfl (by kernel_rfl) (fun _ _ _ h => h) (Or.inl ⟨by rfl, ?_⟩) hHeld ?_ ?_
    rotate_left
    ·rintro w' ⟨s0, s1, s2, s3, s4, s5, s6, s7⟩
     go_simp
     with_reducible rfl
    rotate_left
    ·simp only [Act.put, List.setIfInBounds_toArray, List.set_cons_zero, List.set_cons_succ, i64_w, i32_w]
     rfl
    refine take_ (i := 1) (N := some 38) (v := ?_) (a' := ?_) #[true, true, false, false, false] rfl rfl (by kernel_rfl) (fun _ _ _ h => h) (Or.inl ⟨by rfl, ?_⟩) hHeld ?_ ?_
    rotate_left
    ·rintro w' ⟨s0, s1, s2, s3, s4, s5, s6, s7⟩
     go_simp
     with_reducible rfl
    rotate_left
    ·simp only [Act.put, List.setIfInBounds_toArray, List.set_cons_zero, List.set_cons_succ, i64_w, i32_w]
     rfl
    refine one_ (i := 2) (N := some 39) #[true, true, true, false, false] rfl rfl (by kernel_rfl) (by decide) (fun K hK => ?_)
    refine goes_ Try.func75 (by kernel_rfl) rfl #[.agg #[.slice A0_0 l0_0.length c0_0, .int .i64 a0_1, .int .i64 a0_2, .slice A0_3 l0_3.length c0_3]] (by rfl) rfl rfl (by (try simp only [List.map_toArray, List.map_cons, List.map_nil]); first | done | rfl | (simp only [List.length_drop, List.length_take]; rfl)) ?_
    with_reducible refine (laws_toVisit.calls k _ _ l0_0 a0_1 a0_2 _ _ l0_3 t441 t444 t445 t446 _ ?side1 ?side2 ?side3 ?side4 A19.out).mono ?_
    (case side1 => repeat (first | exact (Kd.C_below HR0_0.out HB.out) | (with_reducible refine Kd.C_alloc ?_ _) | (with_reducible refine Kd.C_drewN ?_ _) | (with_reducible refine Kd.C_drew ?_)))
    (case side2 => exact HC0_0.out)
    (case side3 => repeat (first | exact (Kd.C_below HR0_3.out HB.out) | (with_reducible refine Kd.C_alloc ?_ _) | (with_reducible refine Kd.C_drewN ?_ _) | (with_reducible refine Kd.C_drew ?_)))
    (case side4 => exact HC0_3.out)
    rintro e w51 ⟨v442, v447, rfl, ho0, ho1, hb⟩
    refine ⟨_, rfl, ?_⟩
    have n0_ := Aside0.mk (Kd.S_mono (Kd.S_told (Kd.S_told (Kd.S_old (by (with_reducible repeat (first | apply Kd.S_alloc | apply Kd.S_drewN | apply Kd.S_drew)); exact HO411.out) hb) (Kd.S_base ho0)) (Kd.R_base ho1)) (fun _ h_ => h_.1))
    have n1_ := Aside0.mk (Kd.R_elder' (by (with_reducible repeat (first | apply Kd.R_alloc | apply Kd.R_drewN | apply Kd.R_drew)); exact HO416.out) (Kd.R_base ho1) hb)
    have n2_ := Aside0.mk (Kd.R_below (by (with_reducible repeat (first | apply Kd.R_alloc | apply Kd.R_drewN | apply Kd.R_drew)); exact HO423.out) hb)
    have n3_ := Aside0.mk (Kd.S_mono (Kd.S_told (Kd.S_told (Kd.S_old (by (with_reducible repeat (first | apply Kd.S_alloc | apply Kd.S_drewN | apply Kd.S_drew)); exact HO426.out) hb) (Kd.S_base ho0)) (Kd.R_base ho1)) (fun _ h_ => h_.1))
    have n4_ := Aside0.mk (Kd.R_elder' (by (with_reducible repeat (first | apply Kd.R_alloc | apply Kd.R_drewN | apply Kd.R_drew)); exact HO431.out) (Kd.R_base ho1) hb)
    have n5_ := Aside0.mk (Kd.R_below (by (with_reducible repeat (first | apply Kd.R_alloc | apply Kd.R_drewN | apply Kd.R_drew)); exact HO439.out) hb)
    have n6_ := Aside0.mk (Kd.S_lower (Kd.S_new' (Kd.S_new' (Kd.S_new' (Kd.S_new' ho0 (Kd.S_lt (by (with_reducible repeat (first | apply Kd.S_alloc | apply Kd.S_drewN | apply Kd.S_drew)); exact HO411.out))) (Kd.R_lt (by (with_reducible repeat (first | apply Kd.R_alloc | apply Kd.R_drewN | apply Kd.R_drew)); exact HO416.out))) (Kd.S_lt (by (with_reducible repeat (first | apply Kd.S_alloc | apply Kd.S_drewN | apply Kd.S_drew)); exact HO426.out))) (Kd.R_lt (by (with_reducible repeat (first | apply Kd.R_alloc | apply Kd.R_drewN | apply Kd.R_drew)); exact HO431.out))) (below_size (by repeat (first | (with_reducible first | exact HB.out | apply below_alloc | apply pw_below_drewN | apply below_drew1 | refine below_set ?_ GE406.out | refine below_set ?_ GE407.out | refine below_set ?_ GE432.out) | exact HB.out))))
    have n7_ := Aside0.mk (Kd.R_lower (Kd.R_new' (Kd.R_new' ho1 (Kd.R_lt (by (with_reducible repeat (first | apply Kd.R_alloc | apply Kd.R_drewN | apply Kd.R_drew)); exact HO416.out))) (Kd.R_lt (by (with_reducible repeat (first | apply Kd.R_alloc | apply Kd.R_drewN | apply Kd.R_drew)); exact HO431.out))) (below_size (by repeat (first | (with_reducible first | exact HB.out | apply below_alloc | apply pw_below_drewN | apply below_drew1 | refine below_set ?_ GE406.out | refine below_set ?_ GE407.out | refine below_set ?_ GE432.out) | exact HB.out))))
    have n8_ := Aside0.mk (blk_below (g := gb406) (o := .cells #[.slice A0_0 l0_0.length c0_0, .int .i64 a0_1, .int .i64 a0_2, .slice A0_3 l0_3.length c0_3] 116 (0, 0)) (by (with_reducible repeat (first | refine blk_drewN ?_ _ | refine blk_drew ?_ | refine blk_alloc ?_ _)); exact BK406.out) hb)
    have n9_ := Aside0.mk (blk_below (g := gb407) (o := .cells #[.int .i64 a1_0, .int .i64 a1_1, .int .i64 a1_2, .int .i64 a1_3] 118 (0, 0)) (by (with_reducible repeat (first | refine blk_drewN ?_ _ | refine blk_drew ?_ | refine blk_alloc ?_ _)); exact BK407.out) hb)
    have n10_ := Aside0.mk (blk_below (g := gb432) (o := .cells #[.slice Ao38 t424.length co38, .int .i64 t427, .int .i64 t428, .slice Ao42 t429.length co42] 41 (0, 0)) (by (with_reducible repeat (first | refine blk_drewN ?_ _ | refine blk_drew ?_ | refine blk_alloc ?_ _)); exact BK432.out) hb)
    have n11_ := Aside0.mk (below_step (by repeat (first | (with_reducible first | exact HB.out | apply below_alloc | apply pw_below_drewN | apply below_drew1 | refine below_set ?_ GE406.out | refine below_set ?_ GE407.out | refine below_set ?_ GE432.out) | exact HB.out)) hb)
    clear HO411
    clear HO416
    clear HO423
    clear HO426
    clear HO431
    clear HO439
    clear BK406
    clear BK407
    clear BK432
    clear HB
    have HO411 := n0_
    have HO416 := n1_
    have HO423 := n2_
    have HO426 := n3_
    have HO431 := n4_
    have HO439 := n5_
    have HO443 := n6_
    have HO448 := n7_
    have BK406 := n8_
    have BK407 := n9_
    have BK432 := n10_
    have HB := n11_
    clear n0_ n1_ n2_ n3_ n4_ n5_ n6_ n7_ n8_ n9_ n10_ n11_
    (try clear hb)
    (try clear hb2)
    (try clear hk)
    (try clear hi)
    (try clear ho0)
    (try clear ho1)
    obtain ⟨Ao52, co52, eo52⟩ := Kd.S_slice HO443.out
    (first | subst eo52 | (injection eo52 with f1_ f2_ f3_; have f4_ := f1_.symm; have f5_ := f3_.symm; clear f1_ f2_ f3_; subst f4_; subst f5_))
    obtain ⟨Ao53, co53, eo53⟩ := Kd.R_slice HO448.out
    (first | subst eo53 | (injection eo53 with f1_ f2_ f3_; have f4_ := f1_.symm; have f5_ := f3_.symm; clear f1_ f2_ f3_; subst f4_; subst f5_))
    refine hK.out _ _ ⟨(blk_cell BK432.out 0).trans rfl, (blk_cell BK432.out 1).trans rfl, (blk_cell BK432.out 2).trans rfl, (blk_cell BK432.out 3).trans rfl, (blk_cell BK406.out 0).trans rfl, (blk_cell BK406.out 1).trans rfl, (blk_cell BK406.out 2).trans rfl, (blk_cell BK406.out 3).trans rfl⟩ (fun hHeld => ?_)
    clear hK K
    refine norm_ (a' := ?_) ?_ ?_
    rotate_left
    ·show Act.put _ (some 39) _ = _
     simp only [Act.put, List.setIfInBounds_toArray, List.set_cons_zero, List.set_cons_succ, i64_w, i32_w]
     rfl
    refine one_ (i := 3) (N := some 40) #[true, true, true, true, false] rfl rfl (by kernel_rfl) (by decide) (fun K hK => ?_)
    refine goes_ Try.func78 (by kernel_rfl) rfl #[.agg #[.slice Ao38 t424.length co38, .int .i64 t427, .int .i64 t428, .slice Ao42 t429.length co42], .agg #[.slice Ao52 t441.length co52, .int .i64 t444, .int .i64 t445, .slice Ao53 t446.length co53]] (by rfl) rfl rfl (by (try simp only [List.map_toArray, List.map_cons, List.map_nil]); first | done | rfl | (simp only [List.length_drop, List.length_take]; rfl)) ?_
    with_reducible refine (laws_eqVisit.calls k _ _ t424 t427 t428 _ _ t429 _ _ t441 t444 t445 _ _ t446 true _ ?side1 ?side2 ?side3 ?side4 ?side5 ?side6 ?side7 ?side8 rfl A20.out).mono ?_
    (case side1 => repeat (first | exact (Kd.S_reads' HO426.out).2.2 | (with_reducible refine Kd.C_alloc ?_ _) | (with_reducible refine Kd.C_drewN ?_ _) | (with_reducible refine Kd.C_drew ?_)))
    (case side2 => exact (Kd.S_reads' HO426.out).2.1)
    (case side3 => repeat (first | exact (Kd.R_reads' HO431.out).2.2 | (with_reducible refine Kd.C_alloc ?_ _) | (with_reducible refine Kd.C_drewN ?_ _) | (with_reducible refine Kd.C_drew ?_)))
    (case side4 => exact (Kd.R_reads' HO431.out).2.1)
    (case side5 => repeat (first | exact (Kd.S_reads' HO443.out).2.2 | (with_reducible refine Kd.C_alloc ?_ _) | (with_reducible refine Kd.C_drewN ?_ _) | (with_reducible refine Kd.C_drew ?_)))
    (case side6 => exact (Kd.S_reads' HO443.out).2.1)
    (case side7 => repeat (first | exact (Kd.R_reads' HO448.out).2.2 | (with_reducible refine Kd.C_alloc ?_ _) | (with_reducible refine Kd.C_drewN ?_ _) | (with_reducible refine Kd.C_drew ?_)))
    (case side8 => exact (Kd.R_reads' HO448.out).2.1)
    rintro e w54 ⟨rfl, hb⟩
    refine ⟨_, rfl, ?_⟩
    have n0_ := Aside0.mk (Kd.S_below (by (with_reducible repeat (first | apply Kd.S_alloc | apply Kd.S_drewN | apply Kd.S_drew)); exact HO411.out) hb)
    have n1_ := Aside0.mk (Kd.R_below (by (with_reducible repeat (first | apply Kd.R_alloc | apply Kd.R_drewN | apply Kd.R_drew)); exact HO416.out) hb)
    have n2_ := Aside0.mk (Kd.R_below (by (with_reducible repeat (first | apply Kd.R_alloc | apply Kd.R_drewN | apply Kd.R_drew)); exact HO423.out) hb)
    have n3_ := Aside0.mk (Kd.S_below (by (with_reducible repeat (first | apply Kd.S_alloc | apply Kd.S_drewN | apply Kd.S_drew)); exact HO426.out) hb)
    have n4_ := Aside0.mk (Kd.R_below (by (with_reducible repeat (first | apply Kd.R_alloc | apply Kd.R_drewN | apply Kd.R_drew)); exact HO431.out) hb)
    have n5_ := Aside0.mk (Kd.R_below (by (with_reducible repeat (first | apply Kd.R_alloc | apply Kd.R_drewN | apply Kd.R_drew)); exact HO439.out) hb)
    have n6_ := Aside0.mk (Kd.S_below (by (with_reducible repeat (first | apply Kd.S_alloc | apply Kd.S_drewN | apply Kd.S_drew)); exact HO443.out) hb)
    have n7_ := Aside0.mk (Kd.R_below (by (with_reducible repeat (first | apply Kd.R_alloc | apply Kd.R_drewN | apply Kd.R_drew)); exact HO448.out) hb)
    have n8_ := Aside0.mk (blk_below (g := gb406) (o := .cells #[.slice A0_0 l0_0.length c0_0, .int .i64 a0_1, .int .i64 a0_2, .slice A0_3 l0_3.length c0_3] 116 (0, 0)) (by (with_reducible repeat (first | refine blk_drewN ?_ _ | refine blk_drew ?_ | refine blk_alloc ?_ _)); exact BK406.out) hb)
    have n9_ := Aside0.mk (blk_below (g := gb407) (o := .cells #[.int .i64 a1_0, .int .i64 a1_1, .int .i64 a1_2, .int .i64 a1_3] 118 (0, 0)) (by (with_reducible repeat (first | refine blk_drewN ?_ _ | refine blk_drew ?_ | refine blk_alloc ?_ _)); exact BK407.out) hb)
    have n10_ := Aside0.mk (blk_below (g := gb432) (o := .cells #[.slice Ao38 t424.length co38, .int .i64 t427, .int .i64 t428, .slice Ao42 t429.length co42] 41 (0, 0)) (by (with_reducible repeat (first | refine blk_drewN ?_ _ | refine blk_drew ?_ | refine blk_alloc ?_ _)); exact BK432.out) hb)
    have n11_ := Aside0.mk (below_step (by repeat (first | (with_reducible first | exact HB.out | apply below_alloc | apply pw_below_drewN | apply below_drew1 | refine below_set ?_ GE406.out | refine below_set ?_ GE407.out | refine below_set ?_ GE432.out) | exact HB.out)) hb)
    clear HO411
    clear HO416
    clear HO423
    clear HO426
    clear HO431
    clear HO439
    clear HO443
    clear HO448
    clear BK406
    clear BK407
    clear BK432
    clear HB
    have HO411 := n0_
    have HO416 := n1_
    have HO423 := n2_
    have HO426 := n3_
    have HO431 := n4_
    have HO439 := n5_
    have HO443 := n6_
    have HO448 := n7_
    have BK406 := n8_
    have BK407 := n9_
    have BK432 := n10_
    have HB := n11_
    clear n0_ n1_ n2_ n3_ n4_ n5_ n6_ n7_ n8_ n9_ n10_ n11_
    (try clear hb)
    (try clear hb2)
    (try clear hk)
    (try clear hi)
    refine hK.out _ _ ⟨(blk_cell BK432.out 0).trans rfl, (blk_cell BK432.out 1).trans rfl, (blk_cell BK432.out 2).trans rfl, (blk_cell BK432.out 3).trans rfl, (blk_cell BK406.out 0).trans rfl, (blk_cell BK406.out 1).trans rfl, (blk_cell BK406.out 2).trans rfl, (blk_cell BK406.out 3).trans rfl⟩ (fun hHeld => ?_)
    clear hK K
    refine norm_ (a' := ?_) ?_ ?_
    rotate_left
    ·show Act.put _ (some 40) _ = _
     simp only [Act.put, List.setIfInBounds_toArray, List.set_cons_zero, List.set_cons_succ, i64_w, i32_w]
     rfl
    refine pure_ (i := 4) (N := some 41) (v := ?_) (a' := ?_) #[true, true, true, true, true] rfl rfl (by kernel_rfl) (fun _ _ _ h => h) (Or.inl ⟨by rfl, ?_⟩) ?_ ?_
    rotate_left
    ·intro w'
     go_simp
     with_reducible rfl
    rotate_left
    ·simp only [Act.put, List.setIfInBounds_toArray, List.set_cons_zero, List.set_cons_succ, i64_w, i32_w]
     rfl
    refine done_ (by kernel_rfl) ?_
    have hcz55_0 : w54.cell? ⟨gb432, 0, none⟩ = some (.slice Ao38 t424.length co38) := (blk_cell BK432.out 0).trans rfl
    have hcz55_1 : w54.cell? ⟨gb432, 1, none⟩ = some (.int .i64 t427) := (blk_cell BK432.out 1).trans rfl
    have hcz55_2 : w54.cell? ⟨gb432, 2, none⟩ = some (.int .i64 t428) := (blk_cell BK432.out 2).trans rfl
    have hcz55_3 : w54.cell? ⟨gb432, 3, none⟩ = some (.slice Ao42 t429.length co42) := (blk_cell BK432.out 3).trans rfl
    have hfz55_0 := blk_frozen BK432.out 0
    have hfz55_1 := blk_frozen BK432.out 1
    have hfz55_2 := blk_frozen BK432.out 2
    have hfz55_3 := blk_frozen BK432.out 3
    go_upto_region 14 with (first | ((with_reducible refine gate_callee (f := 79) rfl ?_); refine goesL_ (some 44) rfl rfl Try.func79 (by kernel_rfl) rfl #[.agg #[.slice Ao38 t424.length co38, .int .i64 t427, .int .i64 t428, .slice Ao42 t429.length co42], .int .i64 1] rfl (by (try simp only [List.map_toArray, List.map_cons, List.map_nil]); first | done | rfl | (simp only [List.length_drop, List.length_take]; rfl)) ?_; (with_reducible refine (laws_markVisit.calls k (fun k_ => some k_ ≠ (.slice Ao33 t414.length co33 : Value).ownBlock ∧ some k_ ≠ (.slice Ao48 t421.length co48 : Value).ownBlock ∧ some k_ ≠ (.slice Ao42 t429.length co42 : Value).ownBlock ∧ some k_ ≠ (.slice Ao47 t437.length co47 : Value).ownBlock ∧ some k_ ≠ (.slice Ao53 t446.length co53 : Value).ownBlock ∧ k_ ≠ gb406 ∧ k_ ≠ gb407 ∧ k_ ≠ gb432) (.slice Ao38 t424.length co38) t424 t427 t428 (fun k_ => some k_ = (.slice Ao42 t429.length co42 : Value).ownBlock) (.slice Ao42 t429.length co42) t429 1 t450 t451 w _ ?side1 ?side2 ?side3 ?side4 ?side5 A22.out).mono ?_); (case side1 => repeat (first | (with_reducible first | exact HB.out | apply below_alloc | apply pw_below_drewN | apply below_drew1 | refine below_set ?_ GE406.out | refine below_set ?_ GE407.out | refine below_set ?_ GE432.out) | exact HB.out)); (case side2 => exact Kd.S_mono (Kd.S_types (Kd.S_types (Kd.S_types (Kd.S_apart' (Kd.S_apart' HO426.out (Kd.R_typed HO423.out) (by decide)) (Kd.R_typed HO439.out) (by decide)) BK406.out (by decide)) BK407.out (by decide)) BK432.out (by decide)) (fun k_ hk_ => by first | exact ⟨hk_.1.1.1.1.1.1.1.2.1, hk_.1.1.1.1.2, hk_.1.1.1.1.1.1.1.2.2, hk_.1.1.1.2, hk_.1.1.1.1.1.2, hk_.1.1.2, hk_.1.2, hk_.2⟩ | simp_all)); (case side3 => exact fun k_ e_ e2_ => e_.2.2.1 e2_); (case side4 => exact Kd.R_tight rfl HO431.out); (case side5 => exact fun k_ e_ e2_ => e2_.2.2.1 e_); rintro e w56 ⟨rfl, hy0, hb, hkp⟩; refine ⟨_, rfl, ?_⟩; have n0_ := Aside0.mk (blk_kept (by (with_reducible repeat (first | refine blk_drewN ?_ _ | refine blk_drew ?_ | refine blk_alloc ?_ _)); exact BK406.out) hkp (fun hs_ => Or.elim hs_ (fun e_ => (fun e_ => e_.2.2.2.2.2.1 rfl) e_) (fun e_ => (fun e_ => (Kd.R_ne HO431.out BK406.out (by decide)) e_) e_))); have n1_ := Aside0.mk (blk_kept (by (with_reducible repeat (first | refine blk_drewN ?_ _ | refine blk_drew ?_ | refine blk_alloc ?_ _)); exact BK407.out) hkp (fun hs_ => Or.elim hs_ (fun e_ => (fun e_ => e_.2.2.2.2.2.2.1 rfl) e_) (fun e_ => (fun e_ => (Kd.R_ne HO431.out BK407.out (by decide)) e_) e_))); have n2_ := Aside0.mk (Kd.R_mono (ok' := fun k_ => some k_ ≠ (.slice Ao42 t429.length co42 : Value).ownBlock ∧ some k_ ≠ (.slice Ao53 t446.length co53 : Value).ownBlock) (Kd.R_keptB (laws_markVersionS.tight rfl ((Kd.R_apart' HO416.out (Kd.S_typed HO426.out) (by decide)))) hkp (fun k_ hk_ hs_ => Or.elim hs_ (fun e_ => (fun e_ => e_.1 hk_.2) e_) (fun e_ => (hk_.1.1.1) e_))) (fun k_ hk_ => by first | exact ⟨hk_.1.1.1.1, hk_.1.1.1.2⟩ | simp_all)); have n3_ := Aside0.mk (Kd.R_mono (ok' := fun k_ => some k_ ≠ (.slice Ao47 t437.length co47 : Value).ownBlock) (Kd.R_keptB (laws_markVersionS.tight rfl ((Kd.R_apart' (Kd.R_apart' HO423.out (Kd.S_typed HO426.out) (by decide)) (Kd.R_typed HO431.out) (by decide)))) hkp (fun k_ hk_ hs_ => Or.elim hs_ (fun e_ => (fun e_ => e_.2.1 hk_.2) e_) (fun e_ => (hk_.1.2) e_))) (fun k_ hk_ => by first | exact hk_.1.1.1.1.2 | simp_all)); have n4_ := Aside0.mk (Kd.R_reok rfl hy0 (fun k_ e_ => HO431.out.1 k_ e_)); have n5_ := Aside0.mk (blk_kept (by (with_reducible repeat (first | refine blk_drewN ?_ _ | refine blk_drew ?_ | refine blk_alloc ?_ _)); exact BK432.out) hkp (fun hs_ => Or.elim hs_ (fun e_ => (fun e_ => e_.2.2.2.2.2.2.2 rfl) e_) (fun e_ => (fun e_ => (Kd.R_ne HO431.out BK432.out (by decide)) e_) e_))); have n6_ := Aside0.mk (Kd.R_mono (ok' := fun k_ => some k_ ≠ (.slice Ao48 t421.length co48 : Value).ownBlock) (Kd.R_keptB (laws_markVersionS.tight rfl ((Kd.R_apart' (Kd.R_apart' HO439.out (Kd.S_typed HO426.out) (by decide)) (Kd.R_typed HO431.out) (by decide)))) hkp (fun k_ hk_ hs_ => Or.elim hs_ (fun e_ => (fun e_ => e_.2.2.2.1 hk_.2) e_) (fun e_ => (hk_.1.2) e_))) (fun k_ hk_ => by first | exact hk_.1.1.1.1.2 | simp_all)); have n7_ := Aside0.mk (Kd.R_mono (ok' := fun k_ => some k_ ≠ (.slice Ao33 t414.length co33 : Value).ownBlock ∧ some k_ ≠ (.slice Ao42 t429.length co42 : Value).ownBlock) (Kd.R_keptB (laws_markVersionS.tight rfl ((Kd.R_apart' HO448.out (Kd.S_typed HO426.out) (by decide)))) hkp (fun k_ hk_ hs_ => Or.elim hs_ (fun e_ => (fun e_ => e_.2.2.2.2.1 hk_.2) e_) (fun e_ => (hk_.1.1.2) e_))) (fun k_ hk_ => by first | exact ⟨hk_.1.1.1.1.2, hk_.1.1.1.2⟩ | simp_all)); have n8_ := Aside0.mk (hb); clear BK406; clear BK407; clear HO416; clear HO423; clear HO431; clear BK432; clear HO439; clear HO448; clear HB; clear HO426; clear HO411; clear HO443; have BK406 := n0_; have BK407 := n1_; have HO416 := n2_; have HO423 := n3_; have HO431 := n4_; have BK432 := n5_; have HO439 := n6_; have HO448 := n7_; have HB := n8_; clear n0_ n1_ n2_ n3_ n4_ n5_ n6_ n7_ n8_; (try clear hb); (try clear hkp); (try clear hy0)))
    (try simp only [Act.put, List.setIfInBounds_toArray, List.set_cons_zero, List.set_cons_succ])
    go_cut [52] (fun v52 wc => ∃ (kq : Nat) (x52_22 : Bool), v52 = .bool x52_22 ∧ Aside0 (laws_FnExactAddressesFrom.j0 kq a2 t421 t437 x52_22 l0_0 a0_1 a0_2 l0_3 a1_0 a1_1 a1_2 a1_3 = some r) ∧ Aside0 (kq ≤ k) ∧ Aside0 (Kd.R k31 31 wc w.heap.size (fun k_ => some k_ ≠ ((.slice Ao47 t437.length co47) : Value).ownBlock) (.slice Ao48 t421.length co48) t421) ∧ Aside0 (Kd.R k31 31 wc w.heap.size (fun k_ => some k_ ≠ ((.slice Ao48 t421.length co48) : Value).ownBlock) (.slice Ao47 t437.length co47) t437) ∧ Aside0 (wc.heap[gb406]? = some (.cells #[(.slice A0_0 l0_0.length c0_0), .int .i64 a0_1, .int .i64 a0_2, (.slice A0_3 l0_3.length c0_3)] 116 (0, 0))) ∧ Aside0 (wc.heap[gb407]? = some (.cells #[.int .i64 a1_0, .int .i64 a1_1, .int .i64 a1_2, .int .i64 a1_3] 118 (0, 0))) ∧ Aside0 (Below w.heap.size w wc))
    case first =>
     have H := HC23.out
     clear HC23
     by_cases c57 : t450 < 0
     ·rw [if_pos c57] at H
      have c57b0 : decide (t450 < 0) = true := decide_eq_true c57
      clear c57
      (first | rw [c57b0] | (simp only [i64_w, i32_w]; rw [c57b0]) | skip)
      have H' := Aside0.mk H
      clear H
      go_wp2
      go_meet
      case rel => exact ⟨_, (true), (by first | rfl | (simp; done) | (simp [*]; done)), H', ⟨by first | omega | exact Nat.le_refl _⟩, ⟨by (with_reducible repeat (first | apply Kd.R_alloc | apply Kd.R_drewN | apply Kd.R_drew)); exact HO423.out⟩, ⟨by (with_reducible repeat (first | apply Kd.R_alloc | apply Kd.R_drewN | apply Kd.R_drew)); exact HO439.out⟩, ⟨by (with_reducible repeat (first | refine blk_drewN ?_ _ | refine blk_drew ?_ | refine blk_alloc ?_ _)); exact BK406.out⟩, ⟨by (with_reducible repeat (first | refine blk_drewN ?_ _ | refine blk_drew ?_ | refine blk_alloc ?_ _)); exact BK407.out⟩, ⟨by repeat (first | (with_reducible first | exact HB.out | apply below_alloc | apply pw_below_drewN | apply below_drew1 | refine below_set ?_ GE406.out | refine below_set ?_ GE407.out | refine below_set ?_ GE432.out) | exact HB.out)⟩⟩
     ·rw [if_neg c57] at H
      have c57b0 : decide (t450 < 0) = false := decide_eq_false c57
      clear c57
      (first | rw [c57b0] | (simp only [i64_w, i32_w]; rw [c57b0]) | skip)
      replace H := Option.bind_eq_some_iff.mp H
      obtain ⟨t452, A580, H⟩ := H
      replace H : (laws_FnExactAddressesFrom.j0 k a2 t421 t437 (!t452) l0_0 a0_1 a0_2 l0_3 a1_0 a1_1 a1_2 a1_3) = some r := H
      have A58 := Aside0.mk A580
      clear A580
      have H' := Aside0.mk H
      clear H
      go_wp2_with (first | (go_at_call 77; (with_reducible refine (laws_eqAddressS.calls k _ _ t437 _ _ t421 t452 _ ?side1 ?side2 ?side3 ?side4 A58.out).mono ?_); (case side1 => repeat (first | exact (Kd.R_reads' HO439.out).2.2 | (with_reducible refine Kd.C_alloc ?_ _) | (with_reducible refine Kd.C_drewN ?_ _) | (with_reducible refine Kd.C_drew ?_))); (case side2 => exact (Kd.R_reads' HO439.out).2.1); (case side3 => repeat (first | exact (Kd.R_reads' HO423.out).2.2 | (with_reducible refine Kd.C_alloc ?_ _) | (with_reducible refine Kd.C_drewN ?_ _) | (with_reducible refine Kd.C_drew ?_))); (case side4 => exact (Kd.R_reads' HO423.out).2.1); rintro e w59 ⟨rfl, hb⟩; have n0_ := Aside0.mk (Kd.R_below (by (with_reducible repeat (first | apply Kd.R_alloc | apply Kd.R_drewN | apply Kd.R_drew)); exact HO416.out) hb); have n1_ := Aside0.mk (Kd.R_below (by (with_reducible repeat (first | apply Kd.R_alloc | apply Kd.R_drewN | apply Kd.R_drew)); exact HO423.out) hb); have n2_ := Aside0.mk (Kd.R_below (by (with_reducible repeat (first | apply Kd.R_alloc | apply Kd.R_drewN | apply Kd.R_drew)); exact HO431.out) hb); have n3_ := Aside0.mk (Kd.R_below (by (with_reducible repeat (first | apply Kd.R_alloc | apply Kd.R_drewN | apply Kd.R_drew)); exact HO439.out) hb); have n4_ := Aside0.mk (Kd.R_below (by (with_reducible repeat (first | apply Kd.R_alloc | apply Kd.R_drewN | apply Kd.R_drew)); exact HO448.out) hb); have n5_ := Aside0.mk (blk_below (g := gb406) (o := .cells #[.slice A0_0 l0_0.length c0_0, .int .i64 a0_1, .int .i64 a0_2, .slice A0_3 l0_3.length c0_3] 116 (0, 0)) (by (with_reducible repeat (first | refine blk_drewN ?_ _ | refine blk_drew ?_ | refine blk_alloc ?_ _)); exact BK406.out) hb); have n6_ := Aside0.mk (blk_below (g := gb407) (o := .cells #[.int .i64 a1_0, .int .i64 a1_1, .int .i64 a1_2, .int .i64 a1_3] 118 (0, 0)) (by (with_reducible repeat (first | refine blk_drewN ?_ _ | refine blk_drew ?_ | refine blk_alloc ?_ _)); exact BK407.out) hb); have n7_ := Aside0.mk (blk_below (g := gb432) (o := .cells #[.slice Ao38 t424.length co38, .int .i64 t427, .int .i64 t428, .slice Ao42 t429.length co42] 41 (0, 0)) (by (with_reducible repeat (first | refine blk_drewN ?_ _ | refine blk_drew ?_ | refine blk_alloc ?_ _)); exact BK432.out) hb); have n8_ := Aside0.mk (below_step (by repeat (first | (with_reducible first | exact HB.out | apply below_alloc | apply pw_below_drewN | apply below_drew1 | refine below_set ?_ GE406.out | refine below_set ?_ GE407.out | refine below_set ?_ GE432.out) | exact HB.out)) hb); clear HO416; clear HO423; clear HO431; clear HO439; clear HO448; clear BK406; clear BK407; clear BK432; clear HB; have HO416 := n0_; have HO423 := n1_; have HO431 := n2_; have HO439 := n3_; have HO448 := n4_; have BK406 := n5_; have BK407 := n6_; have BK432 := n7_; have HB := n8_; clear n0_ n1_ n2_ n3_ n4_ n5_ n6_ n7_ n8_; (try clear hb); (try clear hb2); (try clear hk); (try clear hi)))
      go_meet
      case rel => exact ⟨_, (!t452), (by first | rfl | (simp; done) | (simp [*]; done)), H', ⟨by first | omega | exact Nat.le_refl _⟩, ⟨by (with_reducible repeat (first | apply Kd.R_alloc | apply Kd.R_drewN | apply Kd.R_drew)); exact HO423.out⟩, ⟨by (with_reducible repeat (first | apply Kd.R_alloc | apply Kd.R_drewN | apply Kd.R_drew)); exact HO439.out⟩, ⟨by (with_reducible repeat (first | refine blk_drewN ?_ _ | refine blk_drew ?_ | refine blk_alloc ?_ _)); exact BK406.out⟩, ⟨by (with_reducible repeat (first | refine blk_drewN ?_ _ | refine blk_drew ?_ | refine blk_alloc ?_ _)); exact BK407.out⟩, ⟨by repeat (first | (with_reducible first | exact HB.out | apply below_alloc | apply pw_below_drewN | apply below_drew1 | refine below_set ?_ GE406.out | refine below_set ?_ GE407.out | refine below_set ?_ GE432.out) | exact HB.out)⟩⟩
    case rest =>
     clear HC23
     try clear c1
     try clear c2
     try clear p2
     try clear c3
     try clear c4
     try clear c5
     try clear c7
     try clear c12
     try clear c21
     try clear c26
     try clear c39
     try clear c40
     try clear c57
     try clear c57b0
     try clear hcz27_0
     try clear hcz27_1
     try clear hcz27_2
     try clear hcz27_3
     try clear hcz35_0
     try clear hcz35_1
     try clear hcz35_2
     try clear hcz35_3
     try clear hcz41_0
     try clear hcz41_1
     try clear hcz41_2
     try clear hcz41_3
     try clear hcz55_0
     try clear hcz55_1
     try clear hcz55_2
     try clear hcz55_3
     try clear hfz27_0
     try clear hfz27_1
     try clear hfz27_2
     try clear hfz27_3
     try clear hfz35_0
     try clear hfz35_1
     try clear hfz35_2
     try clear hfz35_3
     try clear hfz41_0
     try clear hfz41_1
     try clear hfz41_2
     try clear hfz41_3
     try clear hfz55_0
     try clear hfz55_1
     try clear hfz55_2
     try clear hfz55_3
     obtain ⟨kq, x52_22, rfl, HA, HJ22, HO_8, HO_10, BK406, BK407, HB⟩ := hcut
     cases kq with
     | zero => exact absurd HA.out (by simp [laws_FnExactAddressesFrom.j0])
     | succ kj22 =>
      have H := HA.out
      clear HA
      simp only [laws_FnExactAddressesFrom.j0] at H
      by_cases c60 : x52_22 = true
      ·subst c60
       have H1 : (some false) = some r := by rw [if_pos rfl] at H; exact H
       clear H
       have H := H1
       clear H1
       cases (Option.some.inj H).trans hT_
      ·replace c60 := Bool.eq_false_iff.mpr c60
       subst c60
       have H1 : ((laws_markAddressS.f kj22 t437 1).bind fun bt453 => ((laws_heldAddressS.f kj22 bt453.2 1).bind fun t455 => (if t455 < 0 then (some false) else (if t455 = bt453.1 then ((laws_toVisit.f kj22 l0_0 a0_1 a0_2 l0_3).bind fun bt456 => ((laws_toWant.f a1_0 a1_1 a1_2 a1_3).bind fun bt464 => ((impl_AddressesFrom.f kj22 bt456.1 bt456.2.1 bt456.2.2.1 bt456.2.2.2 bt464.1 bt464.2.1 bt464.2.2.1 bt464.2.2.2 a2).bind fun t468 => ((laws_eqAddressS.f kj22 t468 t421).bind fun t471 => (if t471 = true then ((laws_heldAddressS.f kj22 bt453.2 1).bind fun t472 => (if t472 < 0 then (some false) else (if t472 = bt453.1 then (some true) else (some false)))) else (some false)))))) else (some false))))) = some r := by rw [if_neg (show ¬ (false = true) by decide)] at H; exact H
       clear H
       have H := H1
       clear H1
       replace H := Option.bind_eq_some_iff.mp H
       obtain ⟨⟨t453, t454⟩, A610, H⟩ := H
       replace H : ((laws_heldAddressS.f kj22 t454 1).bind fun t455 => (if t455 < 0 then (some false) else (if t455 = t453 then ((laws_toVisit.f kj22 l0_0 a0_1 a0_2 l0_3).bind fun bt456 => ((laws_toWant.f a1_0 a1_1 a1_2 a1_3).bind fun bt464 => ((impl_AddressesFrom.f kj22 bt456.1 bt456.2.1 bt456.2.2.1 bt456.2.2.2 bt464.1 bt464.2.1 bt464.2.2.1 bt464.2.2.2 a2).bind fun t468 => ((laws_eqAddressS.f kj22 t468 t421).bind fun t471 => (if t471 = true then ((laws_heldAddressS.f kj22 t454 1).bind fun t472 => (if t472 < 0 then (some false) else (if t472 = t453 then (some true) else (some false)))) else (some false)))))) else (some false)))) = some r := H
       have A61 := Aside0.mk A610
       clear A610
       replace H := Option.bind_eq_some_iff.mp H
       obtain ⟨t455, A620, H⟩ := H
       replace H : (if t455 < 0 then (some false) else (if t455 = t453 then ((laws_toVisit.f kj22 l0_0 a0_1 a0_2 l0_3).bind fun bt456 => ((laws_toWant.f a1_0 a1_1 a1_2 a1_3).bind fun bt464 => ((impl_AddressesFrom.f kj22 bt456.1 bt456.2.1 bt456.2.2.1 bt456.2.2.2 bt464.1 bt464.2.1 bt464.2.2.1 bt464.2.2.2 a2).bind fun t468 => ((laws_eqAddressS.f kj22 t468 t421).bind fun t471 => (if t471 = true then ((laws_heldAddressS.f kj22 t454 1).bind fun t472 => (if t472 < 0 then (some false) else (if t472 = t453 then (some true) else (some false)))) else (some false)))))) else (some false))) = some r := H
       have A62 := Aside0.mk A620
       clear A620
       by_cases c63 : t455 < 0
       ·rw [if_pos c63] at H
        have c63b0 : decide (t455 < 0) = true := decide_eq_true c63
        clear c63
        cases (Option.some.inj H).trans hT_
       ·rw [if_neg c63] at H
        have c63b0 : decide (t455 < 0) = false := decide_eq_false c63
        clear c63
        by_cases c65 : t455 = t453
        ·rw [if_pos c65] at H
         have c65b0 : (t455 == t453) = true := beq_iff_eq.mpr c65
         have c65b1 : (t455 != t453) = false := bne_eq_false_iff_eq.mpr c65
         clear c65
         replace H := Option.bind_eq_some_iff.mp H
         obtain ⟨⟨t456, t459, t460, t461⟩, A660, H⟩ := H
         replace H : ((laws_toWant.f a1_0 a1_1 a1_2 a1_3).bind fun bt464 => ((impl_AddressesFrom.f kj22 t456 t459 t460 t461 bt464.1 bt464.2.1 bt464.2.2.1 bt464.2.2.2 a2).bind fun t468 => ((laws_eqAddressS.f kj22 t468 t421).bind fun t471 => (if t471 = true then ((laws_heldAddressS.f kj22 t454 1).bind fun t472 => (if t472 < 0 then (some false) else (if t472 = t453 then (some true) else (some false)))) else (some false))))) = some r := H
         have A66 := Aside0.mk A660
         clear A660
         replace H := Option.bind_eq_some_iff.mp H
         obtain ⟨⟨t464, t465, t466, t467⟩, A670, H⟩ := H
         replace H : ((impl_AddressesFrom.f kj22 t456 t459 t460 t461 t464 t465 t466 t467 a2).bind fun t468 => ((laws_eqAddressS.f kj22 t468 t421).bind fun t471 => (if t471 = true then ((laws_heldAddressS.f kj22 t454 1).bind fun t472 => (if t472 < 0 then (some false) else (if t472 = t453 then (some true) else (some false)))) else (some false)))) = some r := H
         have A67 := Aside0.mk A670
         clear A670
         replace H := Option.bind_eq_some_iff.mp H
         obtain ⟨t468, A680, H⟩ := H
         replace H : ((laws_eqAddressS.f kj22 t468 t421).bind fun t471 => (if t471 = true then ((laws_heldAddressS.f kj22 t454 1).bind fun t472 => (if t472 < 0 then (some false) else (if t472 = t453 then (some true) else (some false)))) else (some false))) = some r := H
         have A68 := Aside0.mk A680
         clear A680
         replace H := Option.bind_eq_some_iff.mp H
         obtain ⟨t471, A690, H⟩ := H
         replace H : (if t471 = true then ((laws_heldAddressS.f kj22 t454 1).bind fun t472 => (if t472 < 0 then (some false) else (if t472 = t453 then (some true) else (some false)))) else (some false)) = some r := H
         have A69 := Aside0.mk A690
         clear A690
         by_cases c70 : t471 = true
         ·subst c70
          have H1 : ((laws_heldAddressS.f kj22 t454 1).bind fun t472 => (if t472 < 0 then (some false) else (if t472 = t453 then (some true) else (some false)))) = some r := by rw [if_pos rfl] at H; exact H
          clear H
          have H := H1
          clear H1
          replace H := Option.bind_eq_some_iff.mp H
          obtain ⟨t472, A710, H⟩ := H
          replace H : (if t472 < 0 then (some false) else (if t472 = t453 then (some true) else (some false))) = some r := H
          have A71 := Aside0.mk A710
          clear A710
          by_cases c72 : t472 < 0
          ·rw [if_pos c72] at H
           have c72b0 : decide (t472 < 0) = true := decide_eq_true c72
           clear c72
           cases (Option.some.inj H).trans hT_
          ·rw [if_neg c72] at H
           have c72b0 : decide (t472 < 0) = false := decide_eq_false c72
           clear c72
           by_cases c82 : t472 = t453
           ·rw [if_pos c82] at H
            have c82b0 : (t472 == t453) = true := beq_iff_eq.mpr c82
            have c82b1 : (t472 != t453) = false := bne_eq_false_iff_eq.mpr c82
            clear c82
            obtain rfl := Option.some.inj H
            try go_wp2_with (first | ((with_reducible refine gate_callee (f := 80) rfl ?_); refine goesL_ (some 55) rfl rfl Try.func80 (by kernel_rfl) rfl #[.slice Ao47 t437.length co47, .int .i64 1] rfl (by (try simp only [List.map_toArray, List.map_cons, List.map_nil]); first | done | rfl | (simp only [List.length_drop, List.length_take]; rfl)) ?_; (with_reducible refine (laws_markAddressS.calls kj22 (fun k_ => some k_ = (.slice Ao47 t437.length co47 : Value).ownBlock) (.slice Ao47 t437.length co47) t437 1 t453 t454 w _ ?side1 ?side2 A61.out).mono ?_); (case side1 => repeat (first | (with_reducible first | exact HB.out | apply below_alloc | apply pw_below_drewN | apply below_drew1 | refine below_set ?_ GE406.out | refine below_set ?_ GE407.out) | exact HB.out)); (case side2 => exact Kd.R_tight rfl HO_10.out); rintro e w83 ⟨rfl, hy0, hb, hkp⟩; refine ⟨_, rfl, ?_⟩; have n0_ := Aside0.mk (Kd.R_mono (ok' := fun k_ => some k_ ≠ (.slice Ao47 t437.length co47 : Value).ownBlock) (Kd.R_keptB (HO_8.out) hkp (fun k_ hk_ hs_ => (hk_) hs_)) (fun k_ hk_ => by first | exact hk_.1 | simp_all)); have n1_ := Aside0.mk (Kd.R_reok rfl hy0 (fun k_ e_ => HO_10.out.1 k_ e_)); have n2_ := Aside0.mk (blk_kept (by (with_reducible repeat (first | refine blk_drewN ?_ _ | refine blk_drew ?_ | refine blk_alloc ?_ _)); exact BK406.out) hkp (fun hs_ => (fun e_ => (Kd.R_ne HO_10.out BK406.out (by decide)) e_) hs_)); have n3_ := Aside0.mk (blk_kept (by (with_reducible repeat (first | refine blk_drewN ?_ _ | refine blk_drew ?_ | refine blk_alloc ?_ _)); exact BK407.out) hkp (fun hs_ => (fun e_ => (Kd.R_ne HO_10.out BK407.out (by decide)) e_) hs_)); have n4_ := Aside0.mk (hb); clear HO_8; clear HO_10; clear BK406; clear BK407; clear HB; have HO_8 := n0_; have HO_10 := n1_; have BK406 := n2_; have BK407 := n3_; have HB := n4_; clear n0_ n1_ n2_ n3_ n4_; (try clear hb); (try clear hkp); (try clear hy0)) | ((with_reducible refine gate_callee (f := 81) rfl ?_); refine goesL_ (some 58) rfl rfl Try.func81 (by kernel_rfl) rfl #[.slice Ao47 t454.length co47, .int .i64 1] rfl (by (try simp only [List.map_toArray, List.map_cons, List.map_nil]); first | done | (rw [show t454.length = t437.length from (Kd.R_reads' HO_10.out).1.symm] <;> rfl) | rfl | (simp only [List.length_drop, List.length_take]; rfl)) ?_; (with_reducible refine (laws_heldAddressS.calls kj22 _ _ t454 1 t455 _ ?side1 ?side2 A62.out).mono ?_); (case side1 => repeat (first | exact (Kd.R_reads' HO_10.out).2.2 | (with_reducible refine Kd.C_alloc ?_ _) | (with_reducible refine Kd.C_drewN ?_ _) | (with_reducible refine Kd.C_drew ?_))); (case side2 => rw [show t454.length = t437.length from (Kd.R_reads' HO_10.out).1.symm]; exact (Kd.R_reads' HO_10.out).2.1); rintro e w' ⟨rfl, ⟨nd, rfl⟩⟩; refine ⟨_, rfl, ?_⟩))
            (try (rw [drewN_self w83]; generalize hq_ : World.drewN w83 _ = w83; have n0_ : Aside0 (Kd.R k31 31 w83 w.heap.size (fun k_ => some k_ ≠ (.slice Ao48 t421.length co48 : Value).ownBlock) (.slice Ao47 t437.length co47) t454) := ⟨by rw [← hq_]; exact (by (with_reducible repeat (first | apply Kd.R_alloc | apply Kd.R_drewN | apply Kd.R_drew)); exact HO_10.out)⟩; have n1_ : Aside0 (Kd.R k31 31 w83 w.heap.size (fun k_ => some k_ ≠ (.slice Ao47 t437.length co47 : Value).ownBlock) (.slice Ao48 t421.length co48) t421) := ⟨by rw [← hq_]; exact (by (with_reducible repeat (first | apply Kd.R_alloc | apply Kd.R_drewN | apply Kd.R_drew)); exact HO_8.out)⟩; have n2_ : Aside0 (w83.heap[gb406]? = some (.cells #[.slice A0_0 l0_0.length c0_0, .int .i64 a0_1, .int .i64 a0_2, .slice A0_3 l0_3.length c0_3] 116 (0, 0))) := ⟨by rw [← hq_]; exact (by (with_reducible repeat (first | refine blk_drewN ?_ _ | refine blk_drew ?_ | refine blk_alloc ?_ _)); exact BK406.out)⟩; have n3_ : Aside0 (w83.heap[gb407]? = some (.cells #[.int .i64 a1_0, .int .i64 a1_1, .int .i64 a1_2, .int .i64 a1_3] 118 (0, 0))) := ⟨by rw [← hq_]; exact (by (with_reducible repeat (first | refine blk_drewN ?_ _ | refine blk_drew ?_ | refine blk_alloc ?_ _)); exact BK407.out)⟩; have n4_ : Aside0 (Below w.heap.size w w83) := ⟨by rw [← hq_]; exact (by repeat (first | (with_reducible first | exact HB.out | apply below_alloc | apply pw_below_drewN | apply below_drew1 | refine below_set ?_ GE406.out | refine below_set ?_ GE407.out) | exact HB.out))⟩; clear HO_10 HO_8 BK406 BK407 HB hq_; have HO_10 := n0_; have HO_8 := n1_; have BK406 := n2_; have BK407 := n3_; have HB := n4_; clear n0_ n1_ n2_ n3_ n4_))
            have n0_ := Aside0.mk (Kd.R_drew HO_8.out)
            have n1_ := Aside0.mk (Kd.R_drew HO_10.out)
            have n2_ := Aside0.mk (blk_drew BK406.out)
            have n3_ := Aside0.mk (blk_drew BK407.out)
            have n4_ := Aside0.mk (below_drew1 HB.out)
            clear HO_8
            clear HO_10
            clear BK406
            clear BK407
            clear HB
            have HO_8 := n0_
            have HO_10 := n1_
            have BK406 := n2_
            have BK407 := n3_
            have HB := n4_
            clear n0_ n1_ n2_ n3_ n4_
            refine start_ (n := 7) (S := fun w' => w'.cell? ⟨gb406, 0, none⟩ = some (.slice A0_0 l0_0.length c0_0) ∧ w'.cell? ⟨gb406, 1, none⟩ = some (.int .i64 a0_1) ∧ w'.cell? ⟨gb406, 2, none⟩ = some (.int .i64 a0_2) ∧ w'.cell? ⟨gb406, 3, none⟩ = some (.slice A0_3 l0_3.length c0_3) ∧ w'.cell? ⟨gb407, 0, none⟩ = some (.int .i64 a1_0) ∧ w'.cell? ⟨gb407, 1, none⟩ = some (.int .i64 a1_1) ∧ w'.cell? ⟨gb407, 2, none⟩ = some (.int .i64 a1_2) ∧ w'.cell? ⟨gb407, 3, none⟩ = some (.int .i64 a1_3)) (ds := []) #[false, false, false, false, false, false, false] (by kernel_rfl) rfl rfl ⟨(blk_cell BK406.out 0).trans rfl, (blk_cell BK406.out 1).trans rfl, (blk_cell BK406.out 2).trans rfl, (blk_cell BK406.out 3).trans rfl, (blk_cell BK407.out 0).trans rfl, (blk_cell BK407.out 1).trans rfl, (blk_cell BK407.out 2).trans rfl, (blk_cell BK407.out 3).trans rfl⟩ (fun hHeld => ?_)
            generalize w83.drew = w84 at HO_8 HO_10 BK406 BK407 HB hHeld ⊢
            refine pure_ (i := 4) (N := some 68) (v := ?_) (a' := ?_) #[false, false, false, false, true, false, false] rfl rfl (by kernel_rfl) (fun _ _ _ h => h) (Or.inl ⟨by rfl, ?_⟩) ?_ ?_
            rotate_left
            ·intro w'
             go_simp
             with_reducible rfl
            rotate_left
            ·simp only [Act.put, List.setIfInBounds_toArray, List.set_cons_zero, List.set_cons_succ, i64_w, i32_w]
             rfl
            refine take_ (i := 0) (N := some 64) (v := ?_) (a' := ?_) #[true, false, false, false, true, false, false] rfl rfl (by kernel_rfl) (fun _ _ _ h => h) (Or.inl ⟨by rfl, ?_⟩) hHeld ?_ ?_
            rotate_left
            ·rintro w' ⟨s0, s1, s2, s3, s4, s5, s6, s7⟩
             go_simp
             with_reducible rfl
            rotate_left
            ·simp only [Act.put, List.setIfInBounds_toArray, List.set_cons_zero, List.set_cons_succ, i64_w, i32_w]
             rfl
            refine take_ (i := 2) (N := some 66) (v := ?_) (a' := ?_) #[true, false, true, false, true, false, false] rfl rfl (by kernel_rfl) (fun _ _ _ h => h) (Or.inl ⟨by rfl, ?_⟩) hHeld ?_ ?_
            rotate_left
            ·rintro w' ⟨s0, s1, s2, s3, s4, s5, s6, s7⟩
             go_simp
             with_reducible rfl
            rotate_left
            ·simp only [Act.put, List.setIfInBounds_toArray, List.set_cons_zero, List.set_cons_succ, i64_w, i32_w]
             rfl
            refine one_ (i := 1) (N := some 65) #[true, true, true, false, true, false, false] rfl rfl (by kernel_rfl) (by decide) (fun K hK => ?_)
            refine goes_ Try.func75 (by kernel_rfl) rfl #[.agg #[.slice A0_0 l0_0.length c0_0, .int .i64 a0_1, .int .i64 a0_2, .slice A0_3 l0_3.length c0_3]] (by rfl) rfl rfl (by (try simp only [List.map_toArray, List.map_cons, List.map_nil]); first | done | rfl | (simp only [List.length_drop, List.length_take]; rfl)) ?_
            with_reducible refine (laws_toVisit.calls kj22 _ _ l0_0 a0_1 a0_2 _ _ l0_3 t456 t459 t460 t461 _ ?side1 ?side2 ?side3 ?side4 A66.out).mono ?_
            (case side1 => repeat (first | exact (Kd.C_below HR0_0.out HB.out) | (with_reducible refine Kd.C_alloc ?_ _) | (with_reducible refine Kd.C_drewN ?_ _) | (with_reducible refine Kd.C_drew ?_)))
            (case side2 => exact HC0_0.out)
            (case side3 => repeat (first | exact (Kd.C_below HR0_3.out HB.out) | (with_reducible refine Kd.C_alloc ?_ _) | (with_reducible refine Kd.C_drewN ?_ _) | (with_reducible refine Kd.C_drew ?_)))
            (case side4 => exact HC0_3.out)
            rintro e w85 ⟨v457, v462, rfl, ho0, ho1, hb⟩
            refine ⟨_, rfl, ?_⟩
            have n0_ := Aside0.mk (Kd.R_below (by (with_reducible repeat (first | apply Kd.R_alloc | apply Kd.R_drewN | apply Kd.R_drew)); exact HO_8.out) hb)
            have n1_ := Aside0.mk (Kd.R_below (by (with_reducible repeat (first | apply Kd.R_alloc | apply Kd.R_drewN | apply Kd.R_drew)); exact HO_10.out) hb)
            have n2_ := Aside0.mk (Kd.S_lower ho0 (below_size (by repeat (first | (with_reducible first | exact HB.out | apply below_alloc | apply pw_below_drewN | apply below_drew1 | refine below_set ?_ GE406.out | refine below_set ?_ GE407.out) | exact HB.out))))
            have n3_ := Aside0.mk (Kd.R_lower ho1 (below_size (by repeat (first | (with_reducible first | exact HB.out | apply below_alloc | apply pw_below_drewN | apply below_drew1 | refine below_set ?_ GE406.out | refine below_set ?_ GE407.out) | exact HB.out))))
            have n4_ := Aside0.mk (blk_below (g := gb406) (o := .cells #[.slice A0_0 l0_0.length c0_0, .int .i64 a0_1, .int .i64 a0_2, .slice A0_3 l0_3.length c0_3] 116 (0, 0)) (by (with_reducible repeat (first | refine blk_drewN ?_ _ | refine blk_drew ?_ | refine blk_alloc ?_ _)); exact BK406.out) hb)
            have n5_ := Aside0.mk (blk_below (g := gb407) (o := .cells #[.int .i64 a1_0, .int .i64 a1_1, .int .i64 a1_2, .int .i64 a1_3] 118 (0, 0)) (by (with_reducible repeat (first | refine blk_drewN ?_ _ | refine blk_drew ?_ | refine blk_alloc ?_ _)); exact BK407.out) hb)
            have n6_ := Aside0.mk (below_step (by repeat (first | (with_reducible first | exact HB.out | apply below_alloc | apply pw_below_drewN | apply below_drew1 | refine below_set ?_ GE406.out | refine below_set ?_ GE407.out) | exact HB.out)) hb)
            clear HO_8
            clear HO_10
            clear BK406
            clear BK407
            clear HB
            have HO_8 := n0_
            have HO_10 := n1_
            have HO458 := n2_
            have HO463 := n3_
            have BK406 := n4_
            have BK407 := n5_
            have HB := n6_
            clear n0_ n1_ n2_ n3_ n4_ n5_ n6_
            (try clear hb)
            (try clear hb2)
            (try clear hk)
            (try clear hi)
            (try clear ho0)
            (try clear ho1)
            refine hK.out _ _ ⟨(blk_cell BK406.out 0).trans rfl, (blk_cell BK406.out 1).trans rfl, (blk_cell BK406.out 2).trans rfl, (blk_cell BK406.out 3).trans rfl, (blk_cell BK407.out 0).trans rfl, (blk_cell BK407.out 1).trans rfl, (blk_cell BK407.out 2).trans rfl, (blk_cell BK407.out 3).trans rfl⟩ (fun hHeld => ?_)
            clear hK K
            refine norm_ (a' := ?_) ?_ ?_
            rotate_left
            ·show Act.put _ (some 65) _ = _
             simp only [Act.put, List.setIfInBounds_toArray, List.set_cons_zero, List.set_cons_succ, i64_w, i32_w]
             rfl
            refine one_ (i := 3) (N := some 67) #[true, true, true, true, true, false, false] rfl rfl (by kernel_rfl) (by decide) (fun K hK => ?_)
            refine goes_ Try.func76 (by kernel_rfl) rfl #[.agg #[.int .i64 a1_0, .int .i64 a1_1, .int .i64 a1_2, .int .i64 a1_3]] (by rfl) rfl rfl (by (try simp only [List.map_toArray, List.map_cons, List.map_nil]); first | done | rfl | (simp only [List.length_drop, List.length_take]; rfl)) ?_
            with_reducible refine (laws_toWant.calls a1_0 a1_1 a1_2 a1_3 t464 t465 t466 t467 _ A67.out).mono ?_
            rintro e w86 ⟨rfl, hb⟩
            refine ⟨_, rfl, ?_⟩
            have n0_ := Aside0.mk (Kd.R_below (by (with_reducible repeat (first | apply Kd.R_alloc | apply Kd.R_drewN | apply Kd.R_drew)); exact HO_8.out) hb)
            have n1_ := Aside0.mk (Kd.R_below (by (with_reducible repeat (first | apply Kd.R_alloc | apply Kd.R_drewN | apply Kd.R_drew)); exact HO_10.out) hb)
            have n2_ := Aside0.mk (Kd.S_below (by (with_reducible repeat (first | apply Kd.S_alloc | apply Kd.S_drewN | apply Kd.S_drew)); exact HO458.out) hb)
            have n3_ := Aside0.mk (Kd.R_below (by (with_reducible repeat (first | apply Kd.R_alloc | apply Kd.R_drewN | apply Kd.R_drew)); exact HO463.out) hb)
            have n4_ := Aside0.mk (blk_below (g := gb406) (o := .cells #[.slice A0_0 l0_0.length c0_0, .int .i64 a0_1, .int .i64 a0_2, .slice A0_3 l0_3.length c0_3] 116 (0, 0)) (by (with_reducible repeat (first | refine blk_drewN ?_ _ | refine blk_drew ?_ | refine blk_alloc ?_ _)); exact BK406.out) hb)
            have n5_ := Aside0.mk (blk_below (g := gb407) (o := .cells #[.int .i64 a1_0, .int .i64 a1_1, .int .i64 a1_2, .int .i64 a1_3] 118 (0, 0)) (by (with_reducible repeat (first | refine blk_drewN ?_ _ | refine blk_drew ?_ | refine blk_alloc ?_ _)); exact BK407.out) hb)
            have n6_ := Aside0.mk (below_step (by repeat (first | (with_reducible first | exact HB.out | apply below_alloc | apply pw_below_drewN | apply below_drew1 | refine below_set ?_ GE406.out | refine below_set ?_ GE407.out) | exact HB.out)) hb)
            clear HO_8
            clear HO_10
            clear HO458
            clear HO463
            clear BK406
            clear BK407
            clear HB
            have HO_8 := n0_
            have HO_10 := n1_
            have HO458 := n2_
            have HO463 := n3_
            have BK406 := n4_
            have BK407 := n5_
            have HB := n6_
            clear n0_ n1_ n2_ n3_ n4_ n5_ n6_
            (try clear hb)
            (try clear hb2)
            (try clear hk)
            (try clear hi)
            obtain ⟨Ao87, co87, eo87⟩ := Kd.S_slice HO458.out
            (first | subst eo87 | (injection eo87 with f1_ f2_ f3_; have f4_ := f1_.symm; have f5_ := f3_.symm; clear f1_ f2_ f3_; subst f4_; subst f5_))
            obtain ⟨Ao88, co88, eo88⟩ := Kd.R_slice HO463.out
            (first | subst eo88 | (injection eo88 with f1_ f2_ f3_; have f4_ := f1_.symm; have f5_ := f3_.symm; clear f1_ f2_ f3_; subst f4_; subst f5_))
            refine hK.out _ _ ⟨(blk_cell BK406.out 0).trans rfl, (blk_cell BK406.out 1).trans rfl, (blk_cell BK406.out 2).trans rfl, (blk_cell BK406.out 3).trans rfl, (blk_cell BK407.out 0).trans rfl, (blk_cell BK407.out 1).trans rfl, (blk_cell BK407.out 2).trans rfl, (blk_cell BK407.out 3).trans rfl⟩ (fun hHeld => ?_)
            clear hK K
            refine norm_ (a' := ?_) ?_ ?_
            rotate_left
            ·show Act.put _ (some 67) _ = _
             simp only [Act.put, List.setIfInBounds_toArray, List.set_cons_zero, List.set_cons_succ, i64_w, i32_w]
             rfl
            refine one_ (i := 5) (N := some 69) #[true, true, true, true, true, true, false] rfl rfl (by kernel_rfl) (by decide) (fun K hK => ?_)
            refine goes_ Try.func26 (by kernel_rfl) rfl #[.agg #[.slice Ao87 t456.length co87, .int .i64 t459, .int .i64 t460, .slice Ao88 t461.length co88], .agg #[.int .i64 t464, .int .i64 t465, .int .i64 t466, .int .i64 t467], .int .i64 a2] (by rfl) rfl rfl (by (try simp only [List.map_toArray, List.map_cons, List.map_nil]); first | done | rfl | (simp only [List.length_drop, List.length_take]; rfl)) ?_
            with_reducible refine (impl_AddressesFrom.calls kj22 _ _ t456 t459 t460 _ _ t461 t464 t465 t466 t467 a2 t468 _ ?side1 ?side2 ?side3 ?side4 A68.out).mono ?_
            (case side1 => repeat (first | exact (Kd.S_reads' HO458.out).2.2 | (with_reducible refine Kd.C_alloc ?_ _) | (with_reducible refine Kd.C_drewN ?_ _) | (with_reducible refine Kd.C_drew ?_)))
            (case side2 => exact (Kd.S_reads' HO458.out).2.1)
            (case side3 => repeat (first | exact (Kd.R_reads' HO463.out).2.2 | (with_reducible refine Kd.C_alloc ?_ _) | (with_reducible refine Kd.C_drewN ?_ _) | (with_reducible refine Kd.C_drew ?_)))
            (case side4 => exact (Kd.R_reads' HO463.out).2.1)
            rintro e w89 ⟨v469, rfl, ho0, hb⟩
            refine ⟨_, rfl, ?_⟩
            have n0_ := Aside0.mk (Kd.R_elder' (by (with_reducible repeat (first | apply Kd.R_alloc | apply Kd.R_drewN | apply Kd.R_drew)); exact HO_8.out) (Kd.R_base ho0) hb)
            have n1_ := Aside0.mk (Kd.R_elder' (by (with_reducible repeat (first | apply Kd.R_alloc | apply Kd.R_drewN | apply Kd.R_drew)); exact HO_10.out) (Kd.R_base ho0) hb)
            have n2_ := Aside0.mk (Kd.S_below (by (with_reducible repeat (first | apply Kd.S_alloc | apply Kd.S_drewN | apply Kd.S_drew)); exact HO458.out) hb)
            have n3_ := Aside0.mk (Kd.R_below (by (with_reducible repeat (first | apply Kd.R_alloc | apply Kd.R_drewN | apply Kd.R_drew)); exact HO463.out) hb)
            have n4_ := Aside0.mk (Kd.R_lower (Kd.R_new' (Kd.R_new' ho0 (Kd.R_lt (by (with_reducible repeat (first | apply Kd.R_alloc | apply Kd.R_drewN | apply Kd.R_drew)); exact HO_8.out))) (Kd.R_lt (by (with_reducible repeat (first | apply Kd.R_alloc | apply Kd.R_drewN | apply Kd.R_drew)); exact HO_10.out))) (below_size (by repeat (first | (with_reducible first | exact HB.out | apply below_alloc | apply pw_below_drewN | apply below_drew1 | refine below_set ?_ GE406.out | refine below_set ?_ GE407.out) | exact HB.out))))
            have n5_ := Aside0.mk (blk_below (g := gb406) (o := .cells #[.slice A0_0 l0_0.length c0_0, .int .i64 a0_1, .int .i64 a0_2, .slice A0_3 l0_3.length c0_3] 116 (0, 0)) (by (with_reducible repeat (first | refine blk_drewN ?_ _ | refine blk_drew ?_ | refine blk_alloc ?_ _)); exact BK406.out) hb)
            have n6_ := Aside0.mk (blk_below (g := gb407) (o := .cells #[.int .i64 a1_0, .int .i64 a1_1, .int .i64 a1_2, .int .i64 a1_3] 118 (0, 0)) (by (with_reducible repeat (first | refine blk_drewN ?_ _ | refine blk_drew ?_ | refine blk_alloc ?_ _)); exact BK407.out) hb)
            have n7_ := Aside0.mk (below_step (by repeat (first | (with_reducible first | exact HB.out | apply below_alloc | apply pw_below_drewN | apply below_drew1 | refine below_set ?_ GE406.out | refine below_set ?_ GE407.out) | exact HB.out)) hb)
            clear HO_8
            clear HO_10
            clear HO458
            clear HO463
            clear BK406
            clear BK407
            clear HB
            have HO_8 := n0_
            have HO_10 := n1_
            have HO458 := n2_
            have HO463 := n3_
            have HO470 := n4_
            have BK406 := n5_
            have BK407 := n6_
            have HB := n7_
            clear n0_ n1_ n2_ n3_ n4_ n5_ n6_ n7_
            (try clear hb)
            (try clear hb2)
            (try clear hk)
            (try clear hi)
            (try clear ho0)
            refine hK.out _ _ ⟨(blk_cell BK406.out 0).trans rfl, (blk_cell BK406.out 1).trans rfl, (blk_cell BK406.out 2).trans rfl, (blk_cell BK406.out 3).trans rfl, (blk_cell BK407.out 0).trans rfl, (blk_cell BK407.out 1).trans rfl, (blk_cell BK407.out 2).trans rfl, (blk_cell BK407.out 3).trans rfl⟩ (fun hHeld => ?_)
            clear hK K
            refine norm_ (a' := ?_) ?_ ?_
            rotate_left
            ·show Act.put _ (some 69) _ = _
             simp only [Act.put, List.setIfInBounds_toArray, List.set_cons_zero, List.set_cons_succ, i64_w, i32_w]
             rfl
            refine pure_ (i := 6) (N := some 14) (v := ?_) (a' := ?_) #[true, true, true, true, true, true, true] rfl rfl (by kernel_rfl) (fun _ _ _ h => h) (Or.inl ⟨by rfl, ?_⟩) ?_ ?_
            rotate_left
            ·intro w'
             go_simp
             with_reducible rfl
            rotate_left
            ·simp only [Act.put, List.setIfInBounds_toArray, List.set_cons_zero, List.set_cons_succ, i64_w, i32_w]
             rfl
            refine done_ (by kernel_rfl) ?_
            obtain ⟨Ao90, co90, eo90⟩ := Kd.R_slice HO470.out
            subst eo90
            try go_wp2_with (first | ((with_reducible refine gate_callee (f := 77) rfl ?_); refine goesL_ (some 72) rfl rfl Try.func77 (by kernel_rfl) rfl #[.slice Ao90 t468.length co90, .slice Ao48 t421.length co48] rfl (by (try simp only [List.map_toArray, List.map_cons, List.map_nil]); first | done | rfl | (simp only [List.length_drop, List.length_take]; rfl)) ?_; (with_reducible refine (laws_eqAddressS.calls kj22 _ _ t468 _ _ t421 true _ ?side1 ?side2 ?side3 ?side4 A69.out).mono ?_); (case side1 => repeat (first | exact (Kd.R_reads' HO470.out).2.2 | (with_reducible refine Kd.C_alloc ?_ _) | (with_reducible refine Kd.C_drewN ?_ _) | (with_reducible refine Kd.C_drew ?_))); (case side2 => exact (Kd.R_reads' HO470.out).2.1); (case side3 => repeat (first | exact (Kd.R_reads' HO_8.out).2.2 | (with_reducible refine Kd.C_alloc ?_ _) | (with_reducible refine Kd.C_drewN ?_ _) | (with_reducible refine Kd.C_drew ?_))); (case side4 => exact (Kd.R_reads' HO_8.out).2.1); rintro e w91 ⟨rfl, hb⟩; refine ⟨_, rfl, ?_⟩; have n0_ := Aside0.mk (Kd.R_below (by (with_reducible repeat (first | apply Kd.R_alloc | apply Kd.R_drewN | apply Kd.R_drew)); exact HO_8.out) hb); have n1_ := Aside0.mk (Kd.R_below (by (with_reducible repeat (first | apply Kd.R_alloc | apply Kd.R_drewN | apply Kd.R_drew)); exact HO_10.out) hb); have n2_ := Aside0.mk (Kd.S_below (by (with_reducible repeat (first | apply Kd.S_alloc | apply Kd.S_drewN | apply Kd.S_drew)); exact HO458.out) hb); have n3_ := Aside0.mk (Kd.R_below (by (with_reducible repeat (first | apply Kd.R_alloc | apply Kd.R_drewN | apply Kd.R_drew)); exact HO463.out) hb); have n4_ := Aside0.mk (Kd.R_below (by (with_reducible repeat (first | apply Kd.R_alloc | apply Kd.R_drewN | apply Kd.R_drew)); exact HO470.out) hb); have n5_ := Aside0.mk (blk_below (g := gb406) (o := .cells #[.slice A0_0 l0_0.length c0_0, .int .i64 a0_1, .int .i64 a0_2, .slice A0_3 l0_3.length c0_3] 116 (0, 0)) (by (with_reducible repeat (first | refine blk_drewN ?_ _ | refine blk_drew ?_ | refine blk_alloc ?_ _)); exact BK406.out) hb); have n6_ := Aside0.mk (blk_below (g := gb407) (o := .cells #[.int .i64 a1_0, .int .i64 a1_1, .int .i64 a1_2, .int .i64 a1_3] 118 (0, 0)) (by (with_reducible repeat (first | refine blk_drewN ?_ _ | refine blk_drew ?_ | refine blk_alloc ?_ _)); exact BK407.out) hb); have n7_ := Aside0.mk (below_step (by repeat (first | (with_reducible first | exact HB.out | apply below_alloc | apply pw_below_drewN | apply below_drew1 | refine below_set ?_ GE406.out | refine below_set ?_ GE407.out) | exact HB.out)) hb); clear HO_8; clear HO_10; clear HO458; clear HO463; clear HO470; clear BK406; clear BK407; clear HB; have HO_8 := n0_; have HO_10 := n1_; have HO458 := n2_; have HO463 := n3_; have HO470 := n4_; have BK406 := n5_; have BK407 := n6_; have HB := n7_; clear n0_ n1_ n2_ n3_ n4_ n5_ n6_ n7_; (try clear hb); (try clear hb2); (try clear hk); (try clear hi)) | ((with_reducible refine gate_callee (f := 81) rfl ?_); refine goesL_ (some 76) rfl rfl Try.func81 (by kernel_rfl) rfl #[.slice Ao47 t454.length co47, .int .i64 1] rfl (by (try simp only [List.map_toArray, List.map_cons, List.map_nil]); first | done | (rw [show t454.length = t437.length from (Kd.R_reads' HO_10.out).1.symm] <;> rfl) | rfl | (simp only [List.length_drop, List.length_take]; rfl)) ?_; (with_reducible refine (laws_heldAddressS.calls kj22 _ _ t454 1 t472 _ ?side1 ?side2 A71.out).mono ?_); (case side1 => repeat (first | exact (Kd.R_reads' HO_10.out).2.2 | (with_reducible refine Kd.C_alloc ?_ _) | (with_reducible refine Kd.C_drewN ?_ _) | (with_reducible refine Kd.C_drew ?_))); (case side2 => rw [show t454.length = t437.length from (Kd.R_reads' HO_10.out).1.symm]; exact (Kd.R_reads' HO_10.out).2.1); rintro e w' ⟨rfl, ⟨nd, rfl⟩⟩; refine ⟨_, rfl, ?_⟩))
            go_ret
            exact ⟨by first | rfl | (simp [errW_none, errW_some] <;> rfl) | (simp [*, errW_none, errW_some] <;> rfl), by repeat (first | (with_reducible first | exact HB.out | apply below_alloc | apply pw_below_drewN | apply below_drew1 | refine below_set ?_ GE406.out | refine below_set ?_ GE407.out) | exact HB.out)⟩
           ·rw [if_neg c82] at H
            have c82b0 : (t472 == t453) = false := beq_eq_false_iff_ne.mpr c82
            have c82b1 : (t472 != t453) = true := bne_iff_ne.mpr c82
            cases (Option.some.inj H).trans hT_
         ·replace c70 := Bool.eq_false_iff.mpr c70
          subst c70
          have H1 : (some false) = some r := by rw [if_neg (show ¬ (false = true) by decide)] at H; exact H
          clear H
          have H := H1
          clear H1
          cases (Option.some.inj H).trans hT_
        ·rw [if_neg c65] at H
         have c65b0 : (t455 == t453) = false := beq_eq_false_iff_ne.mpr c65
         have c65b1 : (t455 != t453) = true := bne_iff_ne.mpr c65
         cases (Option.some.inj H).trans hT_
   ·replace c21 := Bool.eq_false_iff.mpr c21
    subst c21
    have H1 : (some false) = some r := by rw [if_neg (show ¬ (false = true) by decide)] at H; exact H
    clear H
    have H := H1
    clear H1
    cases (Option.some.inj H).trans hT_
  ·replace c18 := Bool.eq_false_iff.mpr c18
   subst c18
   have H1 : (some false) = some r := by rw [if_neg (show ¬ (false = true) by decide)] at H; exact H
   clear H
   have H := H1
   clear H1
   cases (Option.some.inj H).trans hT_

end Go.Proofs.Ytegaambhmpoakaa.MFnExactAddressesFrom
