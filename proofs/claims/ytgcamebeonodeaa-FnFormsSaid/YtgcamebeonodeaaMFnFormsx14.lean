-- Written by a program of this session out of the translation's own print. Not trusted: Lean checks it.
import Derived.Test.YtgcamebeonodeaaShr2
import Derived.Test.YtgcamebeonodeaaMFnFormsx0
import Derived.Test.YtgcamebeonodeaaMFnFormsx1
import Derived.Test.YtgcamebeonodeaaMFnFormsx9
import Derived.Test.YtgcamebeonodeaaMFnFormsx10
import Derived.Test.YtgcamebeonodeaaMFnFormsx12
import Derived.Test.YtgcamebeonodeaaMFnFormsx13
namespace Go.Proofs.Ytgcamebeonodeaa.MFnForms
open Go.RowKit Go.Proofs.YtgcamebeonodeaaW.PrintWords Go.Proofs.YtgcamebeonodeaaW.PrintLast Go.Proofs.YtgcamebeonodeaaW.PrintMore
attribute [local go_sem] max2_int min2_int max_two min_two max_three min_three max_four min_four   -- for this text's walks alone
set_option linter.unusedVariables false
set_option linter.unusedSimpArgs false

attribute [local go_sem high] eqA26
abbrev b14_0 : Array Bool := #[true, true, true, true, true, true, true, true, true, true]
abbrev b14_1 : Array Bool := #[true, true, true, true, true, true, true, true, true, false]
abbrev b14_2 : Array Bool := #[true, true, true, true, true, true, true, true, false, false]
abbrev b14_3 : Array Bool := #[true, true, true, true, false, true, true, true, false, false]
abbrev b14_4 : Array Bool := #[true, true, true, true, false, true, true, false, false, false]
abbrev b14_5 : Array Bool := #[true, true, true, true, false, true, false, false, false, false]
abbrev b14_6 : Array Bool := #[true, true, true, true, false, false, false, false, false, false]
abbrev b14_7 : Array Bool := #[true, true, true, false, false, false, false, false, false, false]
abbrev b14_8 : Array Bool := #[true, true, false, false, false, false, false, false, false, false]
abbrev b14_9 : Array Bool := #[true, false, false, false, false, false, false, false, false, false]
abbrev b14_10 : Array Bool := #[false, false, false, false, false, false, false, false, false, false]
abbrev b14_11 : Array Bool := mkB 12 4095
abbrev b14_12 : Array Bool := mkB 12 2047
abbrev b14_13 : Array Bool := mkB 12 1023
abbrev b14_14 : Array Bool := mkB 12 511
abbrev b14_15 : Array Bool := mkB 12 255
abbrev b14_16 : Array Bool := mkB 12 127
abbrev b14_19 : Array Bool := mkB 13 8191
abbrev b14_22 : Array Bool := mkB 13 4095
abbrev b14_25 : Array Bool := mkB 13 2047
abbrev b14_26 : Array Bool := mkB 12 7
abbrev b14_27 : Array Bool := mkB 13 1023
abbrev b14_28 : Array Bool := mkB 12 3
abbrev b14_29 : Array Bool := mkB 13 511
abbrev b14_30 : Array Bool := mkB 12 1
abbrev b14_31 : Array Bool := mkB 13 255
abbrev b14_32 : Array Bool := #[false, false, false, false, false, false, false, false, false, false, false, false]
abbrev b14_33 : Array Bool := mkB 13 127
abbrev b14_34 : Array Bool := mkB 13 63
abbrev b14_35 : Array Bool := mkB 13 59
abbrev b14_36 : Array Bool := mkB 13 27
abbrev b14_37 : Array Bool := mkB 13 11
abbrev b14_38 : Array Bool := mkB 13 3
abbrev b14_39 : Array Bool := mkB 13 1
abbrev b14_40 : Array Bool := #[false, false, false, false, false, false, false, false, false, false, false, false, false]
abbrev b14_41 : Array Bool := mkB 16 65535
abbrev b14_42 : Array Bool := mkB 16 32767
abbrev b14_43 : Array Bool := mkB 16 16383
abbrev b14_44 : Array Bool := mkB 16 8191
abbrev b14_45 : Array Bool := mkB 16 4095
abbrev b14_46 : Array Bool := mkB 16 2047
abbrev b14_47 : Array Bool := mkB 16 1023
abbrev b14_48 : Array Bool := mkB 16 511
abbrev b14_49 : Array Bool := mkB 16 255
abbrev b14_50 : Array Bool := mkB 16 127
abbrev b14_51 : Array Bool := mkB 16 95
abbrev b14_52 : Array Bool := mkB 16 31
abbrev b14_53 : Array Bool := mkB 16 15
abbrev b14_54 : Array Bool := mkB 16 7
abbrev b14_55 : Array Bool := mkB 16 3
abbrev b14_56 : Array Bool := mkB 16 1
abbrev b14_57 : Array Bool := #[false, false, false, false, false, false, false, false, false, false, false, false, false, false, false, false]
theorem bq14 {w : World} {g : Nat} {t : TypeId} {cs : Array Value} {v : Value} (b : Aside0 (w.heap[g]? = some (.cells cs t (0, 0)))) (i : Nat) (h : cs[i]? = some v := by rfl) : w.cell? ⟨g, i, none⟩ = some v := (blk_cell b.out i).trans h
theorem od14 {p : Prop} [Decidable p] (h : decide p = true := by first | (with_reducible assumption) | assumption) : p := of_decide_eq_true h
theorem tn14_0 : ((0 : Int)).toNat = 0 := rfl
/-! ### spec_LearnForm: function 48 -/
mutual
def spec_LearnForm.j0 : Nat → List (S40) → Bool → Int → Int → Int → Int → Int → Int → Bool → Option (Int × Int × Int × Bool)
  | 0, _, _, _, _, _, _, _, _, _ => none
  | k + 1, x0, x20, x477000, x477001, x477002, x479000, x479001, x479002, x479003 => if x20 = true then (some (x479000, x479001, x479002, x479003)) else (spec_LearnForm.l0 k x0 (([] : List (S40))) 0 x477000 x477001 x477002 x479000 x479001 x479002 x479003)
def spec_LearnForm.l0 : Nat → List (S40) → List (S40) → Int → Int → Int → Int → Int → Int → Int → Bool → Option (Int × Int × Int × Bool)
  | 0, _, _, _, _, _, _, _, _, _, _ => none
  | k + 1, x0, x6, x7, x477000, x477001, x477002, x479000, x479001, x479002, x479003 => if x7 < (x0.length : Int) then (if 0 ≤ x7 then ((spec_WithoutQuery.f ((rd_T40 x0 x7).f0.f0) ((rd_T40 x0 x7).f0.f1) ((rd_T40 x0 x7).f0.f2)).bind fun bt485 => ((spec_WithoutQuery.f x477000 x477001 x477002).bind fun bt488 => (if (bt485.1 == bt488.1 && (bt485.2.1 == bt488.2.1 && (bt485.2.2 == bt488.2.2))) = true then ((spec_l19Kind.f k ((rd_T40 x0 x7).f0.f0) ((rd_T40 x0 x7).f0.f1) ((rd_T40 x0 x7).f0.f2) ((rd_T40 x0 x7).f1) ((rd_T40 x0 x7).f2.f0) ((rd_T40 x0 x7).f2.f1) ((rd_T40 x0 x7).f2.f2.f0) ((rd_T40 x0 x7).f2.f2.f1) ((rd_T40 x0 x7).f2.f2.f2)).bind fun t492 => (if t492 = true then (if x6.length < 1599289640401 then (spec_LearnForm.l0 k x0 (x6 ++ [(⟨(⟨(rd_T40 x0 x7).f0.f0, (rd_T40 x0 x7).f0.f1, (rd_T40 x0 x7).f0.f2⟩ : S26), (rd_T40 x0 x7).f1, (⟨(rd_T40 x0 x7).f2.f0, (rd_T40 x0 x7).f2.f1, (⟨(rd_T40 x0 x7).f2.f2.f0, (rd_T40 x0 x7).f2.f2.f1, (rd_T40 x0 x7).f2.f2.f2⟩ : S26)⟩ : S38)⟩ : S40)]) (wrap64 (x7 + 1)) x477000 x477001 x477002 x479000 x479001 x479002 x479003) else (none)) else (spec_LearnForm.l0 k x0 x6 (wrap64 (x7 + 1)) x477000 x477001 x477002 x479000 x479001 x479002 x479003))) else (spec_LearnForm.l0 k x0 x6 (wrap64 (x7 + 1)) x477000 x477001 x477002 x479000 x479001 x479002 x479003)))) else (none)) else (if (x6.length : Int) = 0 then (some (x479000, x479001, (x6.length : Int), true)) else (if 0 < (x6.length : Int) then ((spec_ValueOfResource.f k ((rd_T40 x6 0).f2.f0) ((rd_T40 x6 0).f2.f1) ((rd_T40 x6 0).f2.f2.f0) ((rd_T40 x6 0).f2.f2.f1) ((rd_T40 x6 0).f2.f2.f2)).bind fun t498 => (spec_LearnForm.l1 k x6 1 t498 x479001 (x6.length : Int) true)) else (none)))
def spec_LearnForm.j3 : Nat → List (S40) → Int → Int → Int → Bool → Option (Int × Int × Int × Bool)
  | 0, _, _, _, _, _ => none
  | k + 1, x6, x479000, x479001, x479002, x479003 => spec_LearnForm.l2 k x6 0 x479000 x479001 x479002 x479003
def spec_LearnForm.l2 : Nat → List (S40) → Int → Int → Int → Int → Bool → Option (Int × Int × Int × Bool)
  | 0, _, _, _, _, _, _ => none
  | k + 1, x6, x11, x479000, x479001, x479002, x479003 => if x11 < (x6.length : Int) then (if x479003 = true then (if 0 ≤ x11 then ((spec_FitsForm.f k x479000 x479001 x479002 x479003 ((rd_T40 x6 x11).f0.f0) ((rd_T40 x6 x11).f0.f1) ((rd_T40 x6 x11).f0.f2) ((rd_T40 x6 x11).f1) ((rd_T40 x6 x11).f2.f0) ((rd_T40 x6 x11).f2.f1) ((rd_T40 x6 x11).f2.f2.f0) ((rd_T40 x6 x11).f2.f2.f1) ((rd_T40 x6 x11).f2.f2.f2)).bind fun t506 => (spec_LearnForm.l2 k x6 (wrap64 (x11 + 1)) x479000 x479001 x479002 t506)) else (none)) else (spec_LearnForm.l2 k x6 (wrap64 (x11 + 1)) x479000 x479001 x479002 false)) else (some (x479000, x479001, x479002, x479003))
def spec_LearnForm.l1 : Nat → List (S40) → Int → Int → Int → Int → Bool → Option (Int × Int × Int × Bool)
  | 0, _, _, _, _, _, _ => none
  | k + 1, x6, x8, x479000, x479001, x479002, x479003 => if x8 < (x6.length : Int) then (if 0 ≤ x8 then (if 0 < (x6.length : Int) then (if (!(((rd_T40 x6 x8).f0.f0) == ((rd_T40 x6 0).f0.f0)) || (!(((rd_T40 x6 x8).f0.f1) == ((rd_T40 x6 0).f0.f1)) || (!(((rd_T40 x6 x8).f0.f2) == ((rd_T40 x6 0).f0.f2))))) = true then ((spec_l19Step.f k ((rd_T40 x6 0).f0.f0) ((rd_T40 x6 0).f0.f1) ((rd_T40 x6 0).f0.f2) ((rd_T40 x6 0).f1) ((rd_T40 x6 0).f2.f0) ((rd_T40 x6 0).f2.f1) ((rd_T40 x6 0).f2.f2.f0) ((rd_T40 x6 0).f2.f2.f1) ((rd_T40 x6 0).f2.f2.f2) ((rd_T40 x6 x8).f0.f0) ((rd_T40 x6 x8).f0.f1) ((rd_T40 x6 x8).f0.f2) ((rd_T40 x6 x8).f1) ((rd_T40 x6 x8).f2.f0) ((rd_T40 x6 x8).f2.f1) ((rd_T40 x6 x8).f2.f2.f0) ((rd_T40 x6 x8).f2.f2.f1) ((rd_T40 x6 x8).f2.f2.f2)).bind fun bt503 => (if bt503.1 ≥ 0 then (spec_LearnForm.j3 k x6 bt503.2 bt503.1 x479002 x479003) else (spec_LearnForm.j3 k x6 x479000 x479001 x479002 x479003))) else (spec_LearnForm.l1 k x6 (wrap64 (x8 + 1)) x479000 x479001 x479002 x479003)) else (none)) else (none)) else (spec_LearnForm.j3 k x6 x479000 x479001 x479002 x479003)
end
def spec_LearnForm.f (k : Nat) (l0 : List (S40)) (a1_0 : Int) (a1_1 : Int) (a1_2 : Int) : Option (Int × Int × Int × Bool) := (spec_AreCaptures.f k l0).bind fun t479 => (if t479 = true then ((spec_IsAddress.f a1_0 a1_1 a1_2).bind fun t480 => (spec_LearnForm.j0 k l0 (!t480) a1_0 a1_1 a1_2 0 0 0 false)) else (spec_LearnForm.j0 k l0 true a1_0 a1_1 a1_2 0 0 0 false))
def spec_LearnForm.T8 : Bool × List (List Nat × List Nat) := (true, [([], []), ([], []), ([0, 1], [0, 1]), ([2], [2]), ([3], [3]), ([4], [4]), ([], []), ([6, 5], [6]), ([5, 7], [5, 7]), ([8, 7], [8]), ([9], [9]), ([9], [9]), ([10, 11, 9], [9, 10, 11]), ([12, 9], [9, 12]), ([13, 9, 9], [9, 13]), ([9, 14], [9, 14])])
def spec_LearnForm.B8 : List Nat := [0, 0, 3, 7, 15, 31, 0, 127, 255, 511, 1023, 1023, 4095, 8191, 16383, 32767]
theorem spec_LearnForm.tab8 : rtab .any (opsOf Try.f48 8) = spec_LearnForm.T8 := by kernel_rfl
theorem spec_LearnForm.bits8 : waitsOk spec_LearnForm.T8.2 spec_LearnForm.B8 = true := by kernel_rfl
def spec_LearnForm.T18 : Bool × List (List Nat × List Nat) := (true, [([], []), ([], []), ([0, 1], [0, 1]), ([2], [2]), ([3], [3]), ([], []), ([5], [5]), ([6], [6]), ([7], [7]), ([4, 8], [4, 8])])
def spec_LearnForm.B18 : List Nat := [0, 0, 3, 7, 15, 0, 32, 96, 224, 511]
theorem spec_LearnForm.tab18 : rtab .any (opsOf Try.f48 18) = spec_LearnForm.T18 := by kernel_rfl
theorem spec_LearnForm.bits18 : waitsOk spec_LearnForm.T18.2 spec_LearnForm.B18 = true := by kernel_rfl
def spec_LearnForm.T19 : Bool × List (List Nat × List Nat) := (true, [([], []), ([0], [0]), ([1], [1]), ([], []), ([], []), ([3, 4], [3, 4]), ([5], [5]), ([2, 6], [2, 6]), ([7], [7]), ([8], [8]), ([8], [8]), ([9, 7, 0, 1, 2, 3, 4, 5, 6, 7, 8, 9], [9]), ([10, 11, 0, 1, 2, 3, 4, 5, 6, 7, 8, 9, 10, 11], [10])])
def spec_LearnForm.B19 : List Nat := [0, 1, 3, 0, 0, 24, 56, 127, 255, 511, 511, 1023, 4095]
theorem spec_LearnForm.tab19 : rtab .any (opsOf Try.f48 19) = spec_LearnForm.T19 := by kernel_rfl
theorem spec_LearnForm.bits19 : waitsOk spec_LearnForm.T19.2 spec_LearnForm.B19 = true := by kernel_rfl
def spec_LearnForm.T26 : Bool × List (List Nat × List Nat) := (true, [([], []), ([0], [0]), ([1], [1]), ([2], [2]), ([2], [2]), ([2], [2]), ([4, 5, 2], [2, 4, 5]), ([6, 2], [2, 6]), ([3, 7, 2, 2], [2, 3, 7]), ([2, 8], [2, 8]), ([0, 1, 2, 3, 4, 5, 6, 7, 8, 9], []), ([10, 9, 8, 0, 1, 2, 3, 4, 5, 6, 7, 8, 9], [9, 10])])
def spec_LearnForm.B26 : List Nat := [0, 1, 3, 7, 7, 7, 55, 119, 255, 511, 1023, 2047]
theorem spec_LearnForm.tab26 : rtab .any (opsOf Try.f48 26) = spec_LearnForm.T26 := by kernel_rfl
theorem spec_LearnForm.bits26 : waitsOk spec_LearnForm.T26.2 spec_LearnForm.B26 = true := by kernel_rfl
set_option maxHeartbeats 8000000 in
set_option maxRecDepth 100000 in
theorem spec_LearnForm.calls (k : Nat) (P0_ : Nat → Prop) (A0 : Option Addr) (c0 : Nat) (l0 : List (S40)) (a1_0 : Int) (a1_1 : Int) (a1_2 : Int) (r1 : Int) (r2 : Int) (r3 : Int) (r4 : Bool) (w : World) (hs0 : Kd.V k40 40 w w.heap.size (fun k_ => P0_ k_) (.slice A0 l0.length c0) l0) (h : spec_LearnForm.f k l0 a1_0 a1_1 a1_2 = some (r1, r2, r3, r4)) :
  Calls Try.prog 48 #[.slice A0 l0.length c0, .agg #[.int .i64 a1_0, .int .i64 a1_1, .int .i64 a1_2]] w fun e w' => e = .returned (.agg #[.int .i64 r1, .int .i64 r2, .int .i64 r3, .bool r4]) ∧ Below w.heap.size w w' := by
 have hu26 := Try.underlying26; have hu85 := Try.underlying85; have hu40 := Try.underlying40; have hu38 := Try.underlying38
 have HO0 := ak (show Kd.V k40 40 w w.heap.size (fun k_ => (P0_ k_ ∨ w.heap.size ≤ k_)) (.slice A0 l0.length c0) l0 from Kd.V_mono hs0 (fun k_ hk => .inl hk))
 have HB := ak (Below.refl w.heap.size w)
 have H : ((spec_AreCaptures.f k l0).bind fun t479 => (if t479 = true then ((spec_IsAddress.f a1_0 a1_1 a1_2).bind fun t480 => (spec_LearnForm.j0 k l0 (!t480) a1_0 a1_1 a1_2 0 0 0 false)) else (spec_LearnForm.j0 k l0 true a1_0 a1_1 a1_2 0 0 0 false))) = some (r1, r2, r3, r4) := h
 clear h; have HC3 := Aside0.mk H; clear H
 go_enter Try.func48, Try.ntmps48
 go_upto_region 2 with (first | ((with_reducible refine gate_dst (N := 3) rfl ?_); refine bx_ (N := 3) #[.int .i64 a1_0, .int .i64 a1_1, .int .i64 a1_2] 26 ?_; intro gb476 hg w4 hbox hb; replace HO0 := ak (Kd.V_below (Kd.V_elderB (PV HO0) gb476 (Nat.le_of_eq hg.symm)) hb); have BK476 := ak hbox; have GW476 := gy hg HB; have GE476 := gy hg HB; replace HB := bs HB hb; clear hb hbox hg) | ((with_reducible refine gate_dst (N := 4) rfl ?_); refine bx_ (N := 4) #[.int .i64 0, .int .i64 0, .int .i64 0, .bool false] 85 ?_; intro gb477 hg w5 hbox hb; replace HO0 := ak (Kd.V_below (Kd.V_elderB (PV HO0) gb477 (Nat.le_of_eq hg.symm)) hb); have BK477 := ak hbox; have GW477 := gy hg HB; have GE477 := gy hg HB; replace HB := bs HB hb; have NB476_477 := gm hg BK476; have NB477_476 := gn hg BK476; replace BK476 := kf BK476 hb; clear hb hbox hg) | ((with_reducible refine gate_dst (N := 5) rfl ?_); refine bx_ (N := 5) #[.int .i64 0, .int .i64 0, .int .i64 0, .bool false] 85 ?_; intro gb478 hg w6 hbox hb; replace HO0 := ak (Kd.V_below (Kd.V_elderB (PV HO0) gb478 (Nat.le_of_eq hg.symm)) hb); have BK478 := ak hbox; have GW478 := gy hg HB; have GE478 := gy hg HB; replace HB := bs HB hb; have NB476_478 := gm hg BK476; have NB478_476 := gn hg BK476; replace BK476 := kf BK476 hb; have NB477_478 := gm hg BK477; have NB478_477 := gn hg BK477; replace BK477 := kf BK477 hb; clear hb hbox hg; have hnb7 := NB478_476.out; have hnc7 := NB476_478.out; have hnb8 := NB478_477.out; have hnc8 := NB477_478.out; obtain ⟨hcz9_0, hcz9_1, hcz9_2, hcz9_3, hfz9_0, hfz9_1, hfz9_2, hfz9_3⟩ := bc4 BK478))
 (try simp only [Act.put, List.setIfInBounds_toArray, List.set_cons_zero, List.set_cons_succ])
 go_cut [20] (fun v20 wc => ∃ (kq : Nat) (x20_2 : Bool), v20 = .bool x20_2 ∧ Aside0 (spec_LearnForm.j0 kq l0 x20_2 a1_0 a1_1 a1_2 0 0 0 false = some (r1, r2, r3, r4)) ∧ Aside0 (kq ≤ k) ∧ Aside0 (Kd.V k40 40 wc w.heap.size (fun k_ => (P0_ k_ ∨ w.heap.size ≤ k_) ∧ k_ ≠ gb476 ∧ k_ ≠ gb477 ∧ k_ ≠ gb478) (.slice A0 l0.length c0) l0) ∧ Aside0 (wc.heap[gb476]? = some (.cells #[.int .i64 a1_0, .int .i64 a1_1, .int .i64 a1_2] 26 (0, 0))) ∧ Aside0 (wc.heap[gb477]? = some (.cells #[.int .i64 0, .int .i64 0, .int .i64 0, .bool false] 85 (0, 0))) ∧ Aside0 (wc.heap[gb478]? = some (.cells #[.int .i64 0, .int .i64 0, .int .i64 0, .bool false] 85 (0, 0))) ∧ Aside0 (Below w.heap.size w wc))
 case first =>
  have H := HC3.out; clear HC3; replace H := Option.bind_eq_some_iff.mp H
  obtain ⟨t479, A100, H⟩ := H
  replace H : (if t479 = true then ((spec_IsAddress.f a1_0 a1_1 a1_2).bind fun t480 => (spec_LearnForm.j0 k l0 (!t480) a1_0 a1_1 a1_2 0 0 0 false)) else (spec_LearnForm.j0 k l0 true a1_0 a1_1 a1_2 0 0 0 false)) = some (r1, r2, r3, r4) := H
  have A10 := Aside0.mk A100; clear A100
  by_cases c11 : t479 = true
  ·subst c11
   have H1 : ((spec_IsAddress.f a1_0 a1_1 a1_2).bind fun t480 => (spec_LearnForm.j0 k l0 (!t480) a1_0 a1_1 a1_2 0 0 0 false)) = some (r1, r2, r3, r4) := by rw [if_pos rfl] at H; exact H
   clear H; have H := H1; clear H1; replace H := Option.bind_eq_some_iff.mp H
   obtain ⟨t480, A120, H⟩ := H
   replace H : (spec_LearnForm.j0 k l0 (!t480) a1_0 a1_1 a1_2 0 0 0 false) = some (r1, r2, r3, r4) := H
   have A12 := Aside0.mk A120; clear A120
   have H' := Aside0.mk H
   clear H
   go_wp2_with (first | ((with_reducible refine gate_callee (f := 55) rfl ?_); refine goesL_ (some 14) rfl rfl Try.func55 KR rfl #[.slice A0 l0.length c0] rfl AR ?_; (with_reducible refine (spec_AreCaptures.calls k _ _ l0 true _ ?side1 ?side2 A10.out).mono ?_); (case side1 => exact (Kd.V_reads' (VX (Kd.V_mono HO0.out (fun k_ hk => (⟨hk, hk.2⟩ : _ ∧ k_ ≠ gb478))) (fun _ h_ => h_.1))).2.2); (case side2 => exact (Kd.V_reads' HO0.out).2.1); rintro e w13 ⟨rfl, hb⟩; refine ⟨_, rfl, ?_⟩; replace HO0 := ak (Kd.V_below (VX (Kd.V_mono HO0.out (fun k_ hk => (⟨hk, hk.2⟩ : _ ∧ k_ ≠ gb478))) (fun _ h_ => h_.1)) hb); replace BK476 := kf BK476 hb; replace BK477 := kf BK477 hb; replace BK478 := kp (cs' := #[.int .i64 0, .int .i64 0, .int .i64 0, .bool false]) BK478 hb; replace HB := bs HB hb; (try clear hb); (try clear hb2); (try clear hk); (try clear hi); have hnb14 := NB476_477.out; have hnc14 := NB477_476.out; have hnb15 := NB476_478.out; have hnc15 := NB478_476.out; obtain ⟨hcz16_0, hcz16_1, hcz16_2, hfz16_0, hfz16_1, hfz16_2⟩ := bc3 BK476) | (go_at_call 108; (with_reducible refine (spec_IsAddress.calls a1_0 a1_1 a1_2 t480 _ A12.out).mono ?_); rintro e w17 ⟨rfl, hb⟩; replace HO0 := Vb HO0 hb; replace BK476 := kf BK476 hb; replace BK477 := kf BK477 hb; replace BK478 := kf BK478 hb; replace HB := bs HB hb; (try clear hb); (try clear hb2); (try clear hk); (try clear hi)))
   go_meet
   case rel => exact ⟨_, (!t480), (by first | rfl | (simp; done) | (simp [*]; done)), H', ⟨by first | omega | exact Nat.le_refl _⟩, ⟨VX HO0.out (fun _ hk => ⟨hk.1.1.1, ⟨hk.1.1.2, ⟨hk.1.2, hk.2⟩⟩⟩)⟩, ⟨PK BK476⟩, ⟨PK BK477⟩, ⟨PK BK478⟩, ⟨PB⟩⟩
  ·replace c11 := Bool.eq_false_iff.mpr c11
   subst c11
   have H1 : (spec_LearnForm.j0 k l0 true a1_0 a1_1 a1_2 0 0 0 false) = some (r1, r2, r3, r4) := by rw [if_neg (show ¬ (false = true) by decide)] at H; exact H
   clear H; have H := H1; clear H1
   have H' := Aside0.mk H
   clear H
   go_wp2_with (first | ((with_reducible refine gate_callee (f := 55) rfl ?_); refine goesL_ (some 14) rfl rfl Try.func55 KR rfl #[.slice A0 l0.length c0] rfl AR ?_; (with_reducible refine (spec_AreCaptures.calls k _ _ l0 false _ ?side1 ?side2 A10.out).mono ?_); (case side1 => exact (Kd.V_reads' (VX (Kd.V_mono HO0.out (fun k_ hk => (⟨hk, hk.2⟩ : _ ∧ k_ ≠ gb478))) (fun _ h_ => h_.1))).2.2); (case side2 => exact (Kd.V_reads' HO0.out).2.1); rintro e w18 ⟨rfl, hb⟩; refine ⟨_, rfl, ?_⟩; replace HO0 := ak (Kd.V_below (VX (Kd.V_mono HO0.out (fun k_ hk => (⟨hk, hk.2⟩ : _ ∧ k_ ≠ gb478))) (fun _ h_ => h_.1)) hb); replace BK476 := kf BK476 hb; replace BK477 := kf BK477 hb; replace BK478 := kp (cs' := #[.int .i64 0, .int .i64 0, .int .i64 0, .bool false]) BK478 hb; replace HB := bs HB hb; (try clear hb); (try clear hb2); (try clear hk); (try clear hi)))
   go_meet
   case rel => exact ⟨_, (true), (by first | rfl | (simp; done) | (simp [*]; done)), H', ⟨by first | omega | exact Nat.le_refl _⟩, ⟨VX HO0.out (fun _ hk => ⟨hk.1.1.1, ⟨hk.1.1.2, ⟨hk.1.2, hk.2⟩⟩⟩)⟩, ⟨PK BK476⟩, ⟨PK BK477⟩, ⟨PK BK478⟩, ⟨PB⟩⟩
 case rest =>
  clear HC3
  (try clear c1); (try clear p2); (try clear c4); (try clear c5); (try clear c7); (try clear c8); (try clear c11); (try clear c14); (try clear c15); (try clear hcz16_0); (try clear hcz16_1); (try clear hcz16_2); (try clear hcz9_0); (try clear hcz9_1); (try clear hcz9_2); (try clear hcz9_3); (try clear hfz16_0); (try clear hfz16_1); (try clear hfz16_2); (try clear hfz9_0); (try clear hfz9_1); (try clear hfz9_2); (try clear hfz9_3)
  obtain ⟨kq, x20_2, rfl, HA, HJ2, HO_0, BK476, BK477, BK478, HB⟩ := hcut
  cases kq with
  | zero => exact absurd HA.out (by simp [spec_LearnForm.j0])
  | succ kj2 =>
   have H := HA.out; clear HA
   simp only [spec_LearnForm.j0] at H
   by_cases c19 : x20_2 = true
   ·subst c19
    have H1 : (some (0, 0, 0, false)) = some (r1, r2, r3, r4) := by rw [if_pos rfl] at H; exact H
    clear H; have H := H1; clear H1
    simp only [Option.some.injEq, Prod.mk.injEq] at H
    obtain ⟨rfl, rfl, rfl, rfl⟩ := H
    have hnb20 := NB478_476.out; have hnc20 := NB476_478.out; have hnb21 := NB478_477.out; have hnc21 := NB477_478.out
    obtain ⟨hcz22_0, hcz22_1, hcz22_2, hcz22_3, hfz22_0, hfz22_1, hfz22_2, hfz22_3⟩ := bc4 BK478
    have hnb23 := NB477_476.out; have hnc23 := NB476_477.out
    obtain ⟨hcz24_0, hcz24_1, hcz24_2, hcz24_3, hfz24_0, hfz24_1, hfz24_2, hfz24_3⟩ := bc4 BK477
    go_wp2
    refine bodyPost_ret (results_cell_row rfl _ _ gb477 85 #[.int .i64 0, .int .i64 0, .int .i64 0, .bool false] (0, 0) _ rfl (PX BK477) Try.underlying85 rfl KR) rfl ?_
    exact ⟨RT, PB⟩
   ·replace c19 := Bool.eq_false_iff.mpr c19
    subst c19
    have H1 : (spec_LearnForm.l0 kj2 l0 (([] : List (S40))) 0 a1_0 a1_1 a1_2 0 0 0 false) = some (r1, r2, r3, r4) := by rw [if_neg (show ¬ (false = true) by decide)] at H; exact H
    clear H; have H := H1; clear H1
    obtain ⟨y481, hy481⟩ : ∃ y_ : List (S40), y_ = (([] : List (S40))) := ⟨_, rfl⟩
    replace H : (spec_LearnForm.l0 kj2 l0 y481 0 a1_0 a1_1 a1_2 0 0 0 false) = some (r1, r2, r3, r4) := by first | (rw [hy481]; with_reducible exact H) | (have H2_ := (Option.bind_some _ _).symm.trans H; rw [hy481]; with_reducible exact H2_) | (have H2_ := (Option.bind_some _ _).symm.trans H; with_reducible exact H2_) | with_reducible exact H | (rw [hy481]; exact H) | exact H
    have Ny481 := Aside0.mk hy481; clear hy481
    have H' := Aside0.mk H
    clear H
    go_wp2_with (first | ((with_reducible refine gate_dst (N := 22) rfl ?_); refine Kd.N_lit k40 _ 40 ?hg (N' := 22) ?hd (xs := ([] : List (S40))) (inner := []) (ok := (fun k_ => (P0_ k_ ∨ w.heap.size ≤ k_) ∧ k_ ≠ gb476 ∧ k_ ≠ gb477 ∧ k_ ≠ gb478)) (okp := (fun k_ => (P0_ k_ ∨ w.heap.size ≤ k_) ∧ k_ ≠ gb476 ∧ k_ ≠ gb477 ∧ k_ ≠ gb478)) ?hr ?hp (fun _ hk => hk) ((show ∀ k_, wc.heap.size ≤ k_ → (fun k_ => (P0_ k_ ∨ w.heap.size ≤ k_) ∧ k_ ≠ gb476 ∧ k_ ≠ gb477 ∧ k_ ≠ gb478) k_ from fun k_ hk => ⟨(.inr (Nat.le_trans (below_size PB) hk)), Kd.freshB (g := gb476) (o := .cells #[.int .i64 a1_0, .int .i64 a1_1, .int .i64 a1_2] 26 (0, 0)) (PK BK476) k_ hk, Kd.freshB (g := gb477) (o := .cells #[.int .i64 0, .int .i64 0, .int .i64 0, .bool false] 85 (0, 0)) (PK BK477) k_ hk, Kd.freshB (g := gb478) (o := .cells #[.int .i64 0, .int .i64 0, .int .i64 0, .bool false] 85 (0, 0)) (PK BK478) k_ hk⟩) _ (Nat.le_refl _)) (Below.refl _ _) (Nat.le_refl _) (by simp) ?_; (case hd => rfl); (case hg => rfl); (case hr => first | (go_simp; done) | (go_simp; rfl)); (case hp => exact (Reps.none _ _)); intro v482 w25 ho26 hb hg_ hnew_; clear hg_ hnew_; (first | rw [← Ny481.out] at ho26 | (simp only [Int.reduceToNat] at ho26; rw [← Ny481.out] at ho26)); replace HO_0 := ak (Kd.V_elder' (PV HO_0) (Kd.N_base ho26) hb); have HO483 := ak (Kd.N_lower ho26 (below_size PB)); replace BK476 := kf BK476 hb; replace BK477 := kf BK477 hb; replace BK478 := kf BK478 hb; replace HB := bs HB hb; clear hb ho26))
    go_loopg [6, 7] kj2 (fun kq v6 v7 w' => ∃ (x6_2 : List (S40)) (x7_2 : Int), v7 = .int .i64 x7_2 ∧ Aside0 (spec_LearnForm.l0 kq l0 x6_2 x7_2 a1_0 a1_1 a1_2 0 0 0 false = some (r1, r2, r3, r4)) ∧ Aside0 (kq ≤ kj2) ∧ Aside0 (Kd.V k40 40 w' w.heap.size (fun k_ => (P0_ k_ ∨ w.heap.size ≤ k_) ∧ some k_ ≠ (v6 : Value).ownBlock ∧ k_ ≠ gb476 ∧ k_ ≠ gb477 ∧ k_ ≠ gb478) (.slice A0 l0.length c0) l0) ∧ Aside0 (Kd.N k40 40 w' w.heap.size (fun k_ => (P0_ k_ ∨ w.heap.size ≤ k_) ∧ k_ ≠ gb476 ∧ k_ ≠ gb477 ∧ k_ ≠ gb478) v6 x6_2) ∧ Aside0 (w'.heap[gb476]? = some (.cells #[.int .i64 a1_0, .int .i64 a1_1, .int .i64 a1_2] 26 (0, 0))) ∧ Aside0 (w'.heap[gb477]? = some (.cells #[.int .i64 0, .int .i64 0, .int .i64 0, .bool false] 85 (0, 0))) ∧ Aside0 (w'.heap[gb478]? = some (.cells #[.int .i64 0, .int .i64 0, .int .i64 0, .bool false] 85 (0, 0))) ∧ Aside0 (Below w.heap.size w w'))
    case atStart => exact ⟨(y481), (0), (by first | rfl | (simp; done) | (simp [*]; done)), H', ⟨Nat.le_refl _⟩, ⟨VX HO_0.out (fun _ hk => ⟨hk.1.1, ⟨hk.2, ⟨hk.1.2.1, ⟨hk.1.2.2.1, hk.1.2.2.2⟩⟩⟩⟩)⟩, ⟨PN HO483⟩, ⟨PK BK476⟩, ⟨PK BK477⟩, ⟨PK BK478⟩, ⟨PB⟩⟩
    case round =>
     clear H'
     (try clear c1); (try clear c2); (try clear p2); (try clear c4); (try clear c5); (try clear c7); (try clear c8); (try clear c11); (try clear c14); (try clear c15); (try clear c19); (try clear c20); (try clear c21); (try clear c23); (try clear hcz16_0); (try clear hcz16_1); (try clear hcz16_2); (try clear hcz22_0); (try clear hcz22_1); (try clear hcz22_2); (try clear hcz22_3); (try clear hcz24_0); (try clear hcz24_1); (try clear hcz24_2); (try clear hcz24_3); (try clear hcz9_0); (try clear hcz9_1); (try clear hcz9_2); (try clear hcz9_3); (try clear hfz16_0); (try clear hfz16_1); (try clear hfz16_2); (try clear hfz22_0); (try clear hfz22_1); (try clear hfz22_2); (try clear hfz22_3); (try clear hfz24_0); (try clear hfz24_1); (try clear hfz24_2); (try clear hfz24_3); (try clear hfz9_0); (try clear hfz9_1); (try clear hfz9_2); (try clear hfz9_3); (try clear p2)
     obtain ⟨x6_2, x7_2, rfl, HA, HK2, HO_0, HO_6, BK476, BK477, BK478, HB⟩ := hrel
     cases gk with
     | zero => exact absurd HA.out (by simp [spec_LearnForm.l0])
     | succ k2 =>
      have H := HA.out; clear HA
      simp only [spec_LearnForm.l0] at H
      by_cases c27 : x7_2 < (l0.length : Int)
      ·rw [if_pos c27] at H
       have c27b0 : decide (x7_2 < (l0.length : Int)) = true := decide_eq_true c27
       clear c27
       by_cases c28 : 0 ≤ x7_2
       ·rw [if_pos c28] at H
        have c28b0 : decide (0 ≤ x7_2) = true := decide_eq_true c28
        clear c28; replace H := Option.bind_eq_some_iff.mp H
        obtain ⟨⟨t485, t486, t487⟩, A290, H⟩ := H
        replace H : ((spec_WithoutQuery.f a1_0 a1_1 a1_2).bind fun bt488 => (if (t485 == bt488.1 && (t486 == bt488.2.1 && (t487 == bt488.2.2))) = true then ((spec_l19Kind.f k2 ((rd_T40 l0 x7_2).f0.f0) ((rd_T40 l0 x7_2).f0.f1) ((rd_T40 l0 x7_2).f0.f2) ((rd_T40 l0 x7_2).f1) ((rd_T40 l0 x7_2).f2.f0) ((rd_T40 l0 x7_2).f2.f1) ((rd_T40 l0 x7_2).f2.f2.f0) ((rd_T40 l0 x7_2).f2.f2.f1) ((rd_T40 l0 x7_2).f2.f2.f2)).bind fun t492 => (if t492 = true then (if x6_2.length < 1599289640401 then (spec_LearnForm.l0 k2 l0 (x6_2 ++ [(⟨(⟨(rd_T40 l0 x7_2).f0.f0, (rd_T40 l0 x7_2).f0.f1, (rd_T40 l0 x7_2).f0.f2⟩ : S26), (rd_T40 l0 x7_2).f1, (⟨(rd_T40 l0 x7_2).f2.f0, (rd_T40 l0 x7_2).f2.f1, (⟨(rd_T40 l0 x7_2).f2.f2.f0, (rd_T40 l0 x7_2).f2.f2.f1, (rd_T40 l0 x7_2).f2.f2.f2⟩ : S26)⟩ : S38)⟩ : S40)]) (wrap64 (x7_2 + 1)) a1_0 a1_1 a1_2 0 0 0 false) else (none)) else (spec_LearnForm.l0 k2 l0 x6_2 (wrap64 (x7_2 + 1)) a1_0 a1_1 a1_2 0 0 0 false))) else (spec_LearnForm.l0 k2 l0 x6_2 (wrap64 (x7_2 + 1)) a1_0 a1_1 a1_2 0 0 0 false))) = some (r1, r2, r3, r4) := H
        have A29 := Aside0.mk A290; clear A290; replace H := Option.bind_eq_some_iff.mp H
        obtain ⟨⟨t488, t489, t490⟩, A300, H⟩ := H
        replace H : (if (t485 == t488 && (t486 == t489 && (t487 == t490))) = true then ((spec_l19Kind.f k2 ((rd_T40 l0 x7_2).f0.f0) ((rd_T40 l0 x7_2).f0.f1) ((rd_T40 l0 x7_2).f0.f2) ((rd_T40 l0 x7_2).f1) ((rd_T40 l0 x7_2).f2.f0) ((rd_T40 l0 x7_2).f2.f1) ((rd_T40 l0 x7_2).f2.f2.f0) ((rd_T40 l0 x7_2).f2.f2.f1) ((rd_T40 l0 x7_2).f2.f2.f2)).bind fun t492 => (if t492 = true then (if x6_2.length < 1599289640401 then (spec_LearnForm.l0 k2 l0 (x6_2 ++ [(⟨(⟨(rd_T40 l0 x7_2).f0.f0, (rd_T40 l0 x7_2).f0.f1, (rd_T40 l0 x7_2).f0.f2⟩ : S26), (rd_T40 l0 x7_2).f1, (⟨(rd_T40 l0 x7_2).f2.f0, (rd_T40 l0 x7_2).f2.f1, (⟨(rd_T40 l0 x7_2).f2.f2.f0, (rd_T40 l0 x7_2).f2.f2.f1, (rd_T40 l0 x7_2).f2.f2.f2⟩ : S26)⟩ : S38)⟩ : S40)]) (wrap64 (x7_2 + 1)) a1_0 a1_1 a1_2 0 0 0 false) else (none)) else (spec_LearnForm.l0 k2 l0 x6_2 (wrap64 (x7_2 + 1)) a1_0 a1_1 a1_2 0 0 0 false))) else (spec_LearnForm.l0 k2 l0 x6_2 (wrap64 (x7_2 + 1)) a1_0 a1_1 a1_2 0 0 0 false)) = some (r1, r2, r3, r4) := H
        have A30 := Aside0.mk A300; clear A300
        by_cases c31 : (t485 == t488 && (t486 == t489 && (t487 == t490))) = true
        ·rw [if_pos c31] at H
         have c31b0 : (t485 == t488 && (t486 == t489 && (t487 == t490))) = true := c31
         (try (have c31b1 : decide (t485 = t488 && (t486 == t489 && (t487 == t490))) = true := by simpa using c31))
         (try (have c31b2 : (t485 == t488 && (t486 == t489 && (t487 == t490))) = true := by simpa using c31))
         clear c31; replace H := Option.bind_eq_some_iff.mp H
         obtain ⟨t492, A320, H⟩ := H
         replace H : (if t492 = true then (if x6_2.length < 1599289640401 then (spec_LearnForm.l0 k2 l0 (x6_2 ++ [(⟨(⟨(rd_T40 l0 x7_2).f0.f0, (rd_T40 l0 x7_2).f0.f1, (rd_T40 l0 x7_2).f0.f2⟩ : S26), (rd_T40 l0 x7_2).f1, (⟨(rd_T40 l0 x7_2).f2.f0, (rd_T40 l0 x7_2).f2.f1, (⟨(rd_T40 l0 x7_2).f2.f2.f0, (rd_T40 l0 x7_2).f2.f2.f1, (rd_T40 l0 x7_2).f2.f2.f2⟩ : S26)⟩ : S38)⟩ : S40)]) (wrap64 (x7_2 + 1)) a1_0 a1_1 a1_2 0 0 0 false) else (none)) else (spec_LearnForm.l0 k2 l0 x6_2 (wrap64 (x7_2 + 1)) a1_0 a1_1 a1_2 0 0 0 false)) = some (r1, r2, r3, r4) := H
         have A32 := Aside0.mk A320; clear A320
         by_cases c33 : t492 = true
         ·subst c33
          have H1 : (if x6_2.length < 1599289640401 then (spec_LearnForm.l0 k2 l0 (x6_2 ++ [(⟨(⟨(rd_T40 l0 x7_2).f0.f0, (rd_T40 l0 x7_2).f0.f1, (rd_T40 l0 x7_2).f0.f2⟩ : S26), (rd_T40 l0 x7_2).f1, (⟨(rd_T40 l0 x7_2).f2.f0, (rd_T40 l0 x7_2).f2.f1, (⟨(rd_T40 l0 x7_2).f2.f2.f0, (rd_T40 l0 x7_2).f2.f2.f1, (rd_T40 l0 x7_2).f2.f2.f2⟩ : S26)⟩ : S38)⟩ : S40)]) (wrap64 (x7_2 + 1)) a1_0 a1_1 a1_2 0 0 0 false) else (none)) = some (r1, r2, r3, r4) := by rw [if_pos rfl] at H; exact H
          clear H; have H := H1; clear H1
          by_cases c34 : x6_2.length < 1599289640401
          ·rw [if_pos c34] at H
           have LMc34 := Aside0.mk c34; clear c34
           obtain ⟨y494, hy494⟩ : ∃ y_ : List (S40), y_ = (x6_2 ++ [(⟨(⟨(rd_T40 l0 x7_2).f0.f0, (rd_T40 l0 x7_2).f0.f1, (rd_T40 l0 x7_2).f0.f2⟩ : S26), (rd_T40 l0 x7_2).f1, (⟨(rd_T40 l0 x7_2).f2.f0, (rd_T40 l0 x7_2).f2.f1, (⟨(rd_T40 l0 x7_2).f2.f2.f0, (rd_T40 l0 x7_2).f2.f2.f1, (rd_T40 l0 x7_2).f2.f2.f2⟩ : S26)⟩ : S38)⟩ : S40)]) := ⟨_, rfl⟩
           replace H : (spec_LearnForm.l0 k2 l0 y494 (wrap64 (x7_2 + 1)) a1_0 a1_1 a1_2 0 0 0 false) = some (r1, r2, r3, r4) := by first | (rw [hy494]; with_reducible exact H) | (have H2_ := (Option.bind_some _ _).symm.trans H; rw [hy494]; with_reducible exact H2_) | (have H2_ := (Option.bind_some _ _).symm.trans H; with_reducible exact H2_) | with_reducible exact H | (rw [hy494]; exact H) | exact H
           have Ny494 := Aside0.mk hy494; clear hy494
           have H' := Aside0.mk H
           clear H
           try go_wp2
           replace HO_0 := ak (Kd.V_drew HO_0.out); replace HO_6 := ak (Kd.N_drew HO_6.out); replace BK476 := ak (blk_drew BK476.out); replace BK477 := ak (blk_drew BK477.out); replace BK478 := ak (blk_drew BK478.out); replace HB := ak (below_drew1 HB.out)
           have p484 : 0 ≤ (x7_2 : Int) := od14
           have q484 : x7_2 < (l0.length : Int) := od14
           obtain ⟨ad484, A484_5, c484_5, e484, hx484_0, hx484_1, hx484_2, hx484_3, hx484_4, hx484_5, hx484_6, hx484_7, hx484_8, hl484_5, hi484_5⟩ := at_T40 (Kd.V_reads' HO_0.out).2.2 x7_2 p484 q484
           cases e484
           obtain ⟨ce484, hce484, hMe484, hcc484⟩ := Kd.V_get HO_0.out z40 x7_2 p484 (by first | exact q484 | exact od14 | (have e_ := (Kd.V_reads' HO_0.out).1; omega))
           obtain ⟨ua484_5, uc484_5, rfl, ul484_5, ge484_5⟩ := k40_openF hMe484
           have hv484_5 := hcc484 5 _ rfl
           rw [add_field _ _ 5 (by omega)] at hv484_5
           replace hv484_5 := Option.some.inj (hv484_5.symm.trans hx484_5)
           injection hv484_5 with hva_ hvn_ hvc_
           rw [hva_] at ge484_5
           rw [hvc_] at ul484_5
           have HL484_5 := ak (show Kd.V (Kd.int .i64) 3 _ w.heap.size _ _ ((rd_T40 l0 x7_2).f2.f1) from Kd.V_mk ul484_5 ge484_5); clear hva_ hvn_ hvc_ ge484_5 ul484_5; clear hcc484 hce484; have HR484_5 := Aside0.mk hi484_5; have HC484_5 := Aside0.mk hl484_5; clear hi484_5 hl484_5; replace p484 := eq_true p484; replace q484 := eq_true q484
           have p491 : 0 ≤ (x7_2 : Int) := od14
           have q491 : x7_2 < (l0.length : Int) := od14
           obtain ⟨ad491, A491_5, c491_5, e491, hx491_0, hx491_1, hx491_2, hx491_3, hx491_4, hx491_5, hx491_6, hx491_7, hx491_8, hl491_5, hi491_5⟩ := at_T40 (Kd.V_reads' HO_0.out).2.2 x7_2 p491 q491
           obtain rfl : ad484 = ad491 := (by injection e491)
           obtain ⟨rfl, rfl⟩ : A491_5 = A484_5 ∧ c491_5 = c484_5 := by have e_ := Option.some.inj (hx491_5.symm.trans hx484_5); first | (injection e_ with a_ b_ c_; exact ⟨a_, c_⟩) | (injection e_ with a_ c_; exact ⟨a_, c_⟩)
           obtain ⟨ce491, hce491, hMe491, hcc491⟩ := Kd.V_get HO_0.out z40 x7_2 p491 (by first | exact q491 | exact od14 | (have e_ := (Kd.V_reads' HO_0.out).1; omega))
           obtain ⟨ua491_5, uc491_5, rfl, ul491_5, ge491_5⟩ := k40_openF hMe491
           have hv491_5 := hcc491 5 _ rfl
           rw [add_field _ _ 5 (by omega)] at hv491_5
           replace hv491_5 := Option.some.inj (hv491_5.symm.trans hx491_5)
           injection hv491_5 with hva_ hvn_ hvc_
           rw [hva_] at ge491_5
           rw [hvc_] at ul491_5
           have HL491_5 := ak (show Kd.V (Kd.int .i64) 3 _ w.heap.size _ _ ((rd_T40 l0 x7_2).f2.f1) from Kd.V_mk ul491_5 ge491_5); clear hva_ hvn_ hvc_ ge491_5 ul491_5; clear hcc491 hce491; have HR491_5 := Aside0.mk hi491_5; have HC491_5 := Aside0.mk hl491_5; clear hi491_5 hl491_5; replace p491 := eq_true p491; replace q491 := eq_true q491
           refine start_ (n := 16) (S := fun w' => w'.cell? ⟨gb476, 0, none⟩ = some (.int .i64 a1_0) ∧ w'.cell? ⟨gb476, 1, none⟩ = some (.int .i64 a1_1) ∧ w'.cell? ⟨gb476, 2, none⟩ = some (.int .i64 a1_2) ∧ w'.cell? (ad484.add ((x7_2).toNat * 9)) = some (.int .i64 ((rd_T40 l0 x7_2).f0.f0)) ∧ w'.cell? ⟨(ad484.add ((x7_2).toNat * 9)).block, (ad484.add ((x7_2).toNat * 9)).off + 1, none⟩ = some (.int .i64 ((rd_T40 l0 x7_2).f0.f1)) ∧ w'.cell? ⟨(ad484.add ((x7_2).toNat * 9)).block, (ad484.add ((x7_2).toNat * 9)).off + 2, none⟩ = some (.int .i64 ((rd_T40 l0 x7_2).f0.f2)) ∧ w'.cell? ⟨(ad484.add ((x7_2).toNat * 9)).block, (ad484.add ((x7_2).toNat * 9)).off + 3, none⟩ = some (.int .i64 ((rd_T40 l0 x7_2).f1)) ∧ w'.cell? ⟨(ad484.add ((x7_2).toNat * 9)).block, (ad484.add ((x7_2).toNat * 9)).off + 4, none⟩ = some (.int .i64 ((rd_T40 l0 x7_2).f2.f0)) ∧ w'.cell? ⟨(ad484.add ((x7_2).toNat * 9)).block, (ad484.add ((x7_2).toNat * 9)).off + 5, none⟩ = some (.slice A491_5 ((rd_T40 l0 x7_2).f2.f1).length c491_5) ∧ w'.cell? ⟨(ad484.add ((x7_2).toNat * 9)).block, (ad484.add ((x7_2).toNat * 9)).off + 6, none⟩ = some (.int .i64 ((rd_T40 l0 x7_2).f2.f2.f0)) ∧ w'.cell? ⟨(ad484.add ((x7_2).toNat * 9)).block, (ad484.add ((x7_2).toNat * 9)).off + 7, none⟩ = some (.int .i64 ((rd_T40 l0 x7_2).f2.f2.f1)) ∧ w'.cell? ⟨(ad484.add ((x7_2).toNat * 9)).block, (ad484.add ((x7_2).toNat * 9)).off + 8, none⟩ = some (.int .i64 ((rd_T40 l0 x7_2).f2.f2.f2)) ∧ w'.cell? (ad484.add ((x7_2).toNat * 9)) = some (.int .i64 ((rd_T40 l0 x7_2).f0.f0)) ∧ w'.cell? ⟨(ad484.add ((x7_2).toNat * 9)).block, (ad484.add ((x7_2).toNat * 9)).off + 1, none⟩ = some (.int .i64 ((rd_T40 l0 x7_2).f0.f1)) ∧ w'.cell? ⟨(ad484.add ((x7_2).toNat * 9)).block, (ad484.add ((x7_2).toNat * 9)).off + 2, none⟩ = some (.int .i64 ((rd_T40 l0 x7_2).f0.f2)) ∧ w'.cell? ⟨(ad484.add ((x7_2).toNat * 9)).block, (ad484.add ((x7_2).toNat * 9)).off + 3, none⟩ = some (.int .i64 ((rd_T40 l0 x7_2).f1)) ∧ w'.cell? ⟨(ad484.add ((x7_2).toNat * 9)).block, (ad484.add ((x7_2).toNat * 9)).off + 4, none⟩ = some (.int .i64 ((rd_T40 l0 x7_2).f2.f0)) ∧ w'.cell? ⟨(ad484.add ((x7_2).toNat * 9)).block, (ad484.add ((x7_2).toNat * 9)).off + 5, none⟩ = some (.slice A491_5 ((rd_T40 l0 x7_2).f2.f1).length c491_5) ∧ w'.cell? ⟨(ad484.add ((x7_2).toNat * 9)).block, (ad484.add ((x7_2).toNat * 9)).off + 6, none⟩ = some (.int .i64 ((rd_T40 l0 x7_2).f2.f2.f0)) ∧ w'.cell? ⟨(ad484.add ((x7_2).toNat * 9)).block, (ad484.add ((x7_2).toNat * 9)).off + 7, none⟩ = some (.int .i64 ((rd_T40 l0 x7_2).f2.f2.f1)) ∧ w'.cell? ⟨(ad484.add ((x7_2).toNat * 9)).block, (ad484.add ((x7_2).toNat * 9)).off + 8, none⟩ = some (.int .i64 ((rd_T40 l0 x7_2).f2.f2.f2))) (ds := []) b14_57 KR rfl rfl ⟨bq14 BK476 0, bq14 BK476 1, bq14 BK476 2, hx484_0, hx484_1, hx484_2, hx484_3, hx484_4, hx484_5, hx484_6, hx484_7, hx484_8, hx491_0, hx491_1, hx491_2, hx491_3, hx491_4, hx491_5, hx491_6, hx491_7, hx491_8⟩ (fun hHeld => ?_); refine with_tabW spec_LearnForm.tab8 spec_LearnForm.bits8 (fun HT_ HW_ => ?_)
           generalize wr.drew = w35 at HO_0 HO_6 BK476 BK477 BK478 HB HL484_5 HL491_5 HR484_5 HR491_5 hx484_0 hx484_1 hx484_2 hx484_3 hx484_4 hx484_5 hx484_6 hx484_7 hx484_8 hx491_0 hx491_1 hx491_2 hx491_3 hx491_4 hx491_5 hx491_6 hx491_7 hx491_8 hHeld ⊢
           refine pu_ (i := 0) (N := some 29) b14_56 HT_ ?_
           refine pu_ (i := 1) (N := some 30) b14_55 HT_ ?_
           refine pu_ (i := 2) (N := some 31) b14_54 HT_ ?_
           refine pu_ (i := 3) (N := some 32) b14_53 HT_ ?_
           refine tk_ (i := 4) (N := some 33) b14_52 rfl rfl HT_ HW_ hHeld ?_
           refine take_ (i := 6) (N := some 35) (v := ?_) (a' := ?_) b14_51 rfl rfl (take_ofW HT_.out HW_.out KR) (fun _ _ _ h => h) (Or.inl ⟨by rfl, ?_⟩) hHeld ?_ ?_
           rotate_left
           ·rintro w' ⟨s0, s1, s2, s3, s4, s5, s6, s7, s8, s9, s10, s11, s12, s13, s14, s15, s16, s17, s18, s19, s20⟩
            go_simp
            with_reducible rfl
           rotate_left
           ·simp only [Act.put, List.setIfInBounds_toArray, List.set_cons_zero, List.set_cons_succ, i64_w, i32_w]
            rfl
           refine one_ (i := 5) (N := some 34) b14_50 rfl rfl (one_of HT_.out KR) (by decide) (fun K hK => ?_)
           refine goes_ Try.func109 KR rfl #[.agg #[.int .i64 ((rd_T40 l0 x7_2).f0.f0), .int .i64 ((rd_T40 l0 x7_2).f0.f1), .int .i64 ((rd_T40 l0 x7_2).f0.f2)]] (by rfl) rfl rfl AR ?_
           with_reducible refine (spec_WithoutQuery.calls ((rd_T40 l0 x7_2).f0.f0) ((rd_T40 l0 x7_2).f0.f1) ((rd_T40 l0 x7_2).f0.f2) t485 t486 t487 _ A29.out).mono ?_
           rintro e w36 ⟨rfl, hb⟩
           have HS3_ := hs_ hb hHeld.2.2.2.1; have HS4_ := hs_ hb hHeld.2.2.2.2.1; have HS5_ := hs_ hb hHeld.2.2.2.2.2.1; have HS6_ := hs_ hb hHeld.2.2.2.2.2.2.1; have HS7_ := hs_ hb hHeld.2.2.2.2.2.2.2.1; have HS8_ := hs_ hb hHeld.2.2.2.2.2.2.2.2.1; have HS9_ := hs_ hb hHeld.2.2.2.2.2.2.2.2.2.1; have HS10_ := hs_ hb hHeld.2.2.2.2.2.2.2.2.2.2.1; have HS11_ := hs_ hb hHeld.2.2.2.2.2.2.2.2.2.2.2.1; have HS12_ := hs_ hb hHeld.2.2.2.2.2.2.2.2.2.2.2.2.1; have HS13_ := hs_ hb hHeld.2.2.2.2.2.2.2.2.2.2.2.2.2.1; have HS14_ := hs_ hb hHeld.2.2.2.2.2.2.2.2.2.2.2.2.2.2.1; have HS15_ := hs_ hb hHeld.2.2.2.2.2.2.2.2.2.2.2.2.2.2.2.1; have HS16_ := hs_ hb hHeld.2.2.2.2.2.2.2.2.2.2.2.2.2.2.2.2.1; have HS17_ := hs_ hb hHeld.2.2.2.2.2.2.2.2.2.2.2.2.2.2.2.2.2.1; have HS18_ := hs_ hb hHeld.2.2.2.2.2.2.2.2.2.2.2.2.2.2.2.2.2.2.1; have HS19_ := hs_ hb hHeld.2.2.2.2.2.2.2.2.2.2.2.2.2.2.2.2.2.2.2.1; have HS20_ := hs_ hb hHeld.2.2.2.2.2.2.2.2.2.2.2.2.2.2.2.2.2.2.2.2; refine ⟨_, rfl, ?_⟩; have n0_ := Vb HO_0 hb; have n1_ := Nb HO_6 hb; have n2_ := Vb HL484_5 hb; have n3_ := kf BK476 hb; have n4_ := kf BK477 hb; have n5_ := kf BK478 hb; have n6_ := Cb HR484_5 hb; have n7_ := bs HB hb; have HL491_5 := Vb HL491_5 hb; have HR491_5 := Cb HR491_5 hb; clear HO_0; clear HO_6; clear HL484_5; clear BK476; clear BK477; clear BK478; clear HR484_5; clear HB; have HO_0 := n0_; have HO_6 := n1_; have HL484_5 := n2_; have BK476 := n3_; have BK477 := n4_; have BK478 := n5_; have HR484_5 := n6_; have HB := n7_; clear n0_ n1_ n2_ n3_ n4_ n5_ n6_ n7_
           (try clear hb); (try clear hb2); (try clear hk); (try clear hi)
           refine hK.out _ _ ⟨bq14 BK476 0, bq14 BK476 1, bq14 BK476 2, HS3_, HS4_, HS5_, HS6_, HS7_, HS8_, HS9_, HS10_, HS11_, HS12_, HS13_, HS14_, HS15_, HS16_, HS17_, HS18_, HS19_, HS20_⟩ (fun hHeld => ?_)
           clear hK K
           refine norm_ (a' := ?_) ?_ ?_
           rotate_left
           ·show Act.put _ (some 34) _ = _
            simp only [Act.put, List.setIfInBounds_toArray, List.set_cons_zero, List.set_cons_succ, i64_w, i32_w]
            rfl
           refine one_ (i := 7) (N := some 36) b14_49 rfl rfl (one_of HT_.out KR) (by decide) (fun K hK => ?_)
           refine goes_ Try.func109 KR rfl #[.agg #[.int .i64 a1_0, .int .i64 a1_1, .int .i64 a1_2]] (by rfl) rfl rfl AR ?_
           with_reducible refine (spec_WithoutQuery.calls a1_0 a1_1 a1_2 t488 t489 t490 _ A30.out).mono ?_
           rintro e w37 ⟨rfl, hb⟩
           have HS3_ := hs_ hb hHeld.2.2.2.1; have HS4_ := hs_ hb hHeld.2.2.2.2.1; have HS5_ := hs_ hb hHeld.2.2.2.2.2.1; have HS6_ := hs_ hb hHeld.2.2.2.2.2.2.1; have HS7_ := hs_ hb hHeld.2.2.2.2.2.2.2.1; have HS8_ := hs_ hb hHeld.2.2.2.2.2.2.2.2.1; have HS9_ := hs_ hb hHeld.2.2.2.2.2.2.2.2.2.1; have HS10_ := hs_ hb hHeld.2.2.2.2.2.2.2.2.2.2.1; have HS11_ := hs_ hb hHeld.2.2.2.2.2.2.2.2.2.2.2.1; have HS12_ := hs_ hb hHeld.2.2.2.2.2.2.2.2.2.2.2.2.1; have HS13_ := hs_ hb hHeld.2.2.2.2.2.2.2.2.2.2.2.2.2.1; have HS14_ := hs_ hb hHeld.2.2.2.2.2.2.2.2.2.2.2.2.2.2.1; have HS15_ := hs_ hb hHeld.2.2.2.2.2.2.2.2.2.2.2.2.2.2.2.1; have HS16_ := hs_ hb hHeld.2.2.2.2.2.2.2.2.2.2.2.2.2.2.2.2.1; have HS17_ := hs_ hb hHeld.2.2.2.2.2.2.2.2.2.2.2.2.2.2.2.2.2.1; have HS18_ := hs_ hb hHeld.2.2.2.2.2.2.2.2.2.2.2.2.2.2.2.2.2.2.1; have HS19_ := hs_ hb hHeld.2.2.2.2.2.2.2.2.2.2.2.2.2.2.2.2.2.2.2.1; have HS20_ := hs_ hb hHeld.2.2.2.2.2.2.2.2.2.2.2.2.2.2.2.2.2.2.2.2; refine ⟨_, rfl, ?_⟩; have n0_ := Vb HO_0 hb; have n1_ := Nb HO_6 hb; have n2_ := Vb HL484_5 hb; have n3_ := kf BK476 hb; have n4_ := kf BK477 hb; have n5_ := kf BK478 hb; have n6_ := Cb HR484_5 hb; have n7_ := bs HB hb; have HL491_5 := Vb HL491_5 hb; have HR491_5 := Cb HR491_5 hb; clear HO_0; clear HO_6; clear HL484_5; clear BK476; clear BK477; clear BK478; clear HR484_5; clear HB; have HO_0 := n0_; have HO_6 := n1_; have HL484_5 := n2_; have BK476 := n3_; have BK477 := n4_; have BK478 := n5_; have HR484_5 := n6_; have HB := n7_; clear n0_ n1_ n2_ n3_ n4_ n5_ n6_ n7_
           (try clear hb); (try clear hb2); (try clear hk); (try clear hi)
           refine hK.out _ _ ⟨bq14 BK476 0, bq14 BK476 1, bq14 BK476 2, HS3_, HS4_, HS5_, HS6_, HS7_, HS8_, HS9_, HS10_, HS11_, HS12_, HS13_, HS14_, HS15_, HS16_, HS17_, HS18_, HS19_, HS20_⟩ (fun hHeld => ?_)
           clear hK K
           refine norm_ (a' := ?_) ?_ ?_
           rotate_left
           ·show Act.put _ (some 36) _ = _
            simp only [Act.put, List.setIfInBounds_toArray, List.set_cons_zero, List.set_cons_succ, i64_w, i32_w]
            rfl
           refine pu_ (i := 8) (N := some 37) b14_48 HT_ ?_
           refine pu_ (i := 9) (N := some 38) b14_47 HT_ ?_
           refine pu_ (i := 10) (N := some 39) b14_46 HT_ ?_
           refine pu_ (i := 11) (N := some 40) b14_45 HT_ ?_
           refine pu_ (i := 12) (N := some 41) b14_44 HT_ ?_
           refine tk_ (i := 13) (N := some 42) b14_43 rfl rfl HT_ HW_ hHeld ?_
           refine one_ (i := 14) (N := some 43) b14_42 rfl rfl (one_of HT_.out KR) (by decide) (fun K hK => ?_)
           refine goes_ Try.func110 KR rfl #[.agg #[.int .i64 ((rd_T40 l0 x7_2).f0.f0), .int .i64 ((rd_T40 l0 x7_2).f0.f1), .int .i64 ((rd_T40 l0 x7_2).f0.f2), .int .i64 ((rd_T40 l0 x7_2).f1), .int .i64 ((rd_T40 l0 x7_2).f2.f0), .slice A491_5 ((rd_T40 l0 x7_2).f2.f1).length c491_5, .int .i64 ((rd_T40 l0 x7_2).f2.f2.f0), .int .i64 ((rd_T40 l0 x7_2).f2.f2.f1), .int .i64 ((rd_T40 l0 x7_2).f2.f2.f2)]] (by rfl) rfl rfl AR ?_
           with_reducible refine (spec_l19Kind.calls k2 ((rd_T40 l0 x7_2).f0.f0) ((rd_T40 l0 x7_2).f0.f1) ((rd_T40 l0 x7_2).f0.f2) ((rd_T40 l0 x7_2).f1) ((rd_T40 l0 x7_2).f2.f0) _ _ ((rd_T40 l0 x7_2).f2.f1) ((rd_T40 l0 x7_2).f2.f2.f0) ((rd_T40 l0 x7_2).f2.f2.f1) ((rd_T40 l0 x7_2).f2.f2.f2) true _ ?side1 ?side2 A32.out).mono ?_
           (case side1 => repeat (first | exact (PC HR491_5) | (with_reducible refine Kd.C_alloc ?_ _) | (with_reducible refine Kd.C_drewN ?_ _) | (with_reducible refine Kd.C_drew ?_)))
           (case side2 => exact HC491_5.out)
           rintro e w38 ⟨rfl, hb⟩
           have HS3_ := hs_ hb hHeld.2.2.2.1; have HS4_ := hs_ hb hHeld.2.2.2.2.1; have HS5_ := hs_ hb hHeld.2.2.2.2.2.1; have HS6_ := hs_ hb hHeld.2.2.2.2.2.2.1; have HS7_ := hs_ hb hHeld.2.2.2.2.2.2.2.1; have HS8_ := hs_ hb hHeld.2.2.2.2.2.2.2.2.1; have HS9_ := hs_ hb hHeld.2.2.2.2.2.2.2.2.2.1; have HS10_ := hs_ hb hHeld.2.2.2.2.2.2.2.2.2.2.1; have HS11_ := hs_ hb hHeld.2.2.2.2.2.2.2.2.2.2.2.1; have HS12_ := hs_ hb hHeld.2.2.2.2.2.2.2.2.2.2.2.2.1; have HS13_ := hs_ hb hHeld.2.2.2.2.2.2.2.2.2.2.2.2.2.1; have HS14_ := hs_ hb hHeld.2.2.2.2.2.2.2.2.2.2.2.2.2.2.1; have HS15_ := hs_ hb hHeld.2.2.2.2.2.2.2.2.2.2.2.2.2.2.2.1; have HS16_ := hs_ hb hHeld.2.2.2.2.2.2.2.2.2.2.2.2.2.2.2.2.1; have HS17_ := hs_ hb hHeld.2.2.2.2.2.2.2.2.2.2.2.2.2.2.2.2.2.1; have HS18_ := hs_ hb hHeld.2.2.2.2.2.2.2.2.2.2.2.2.2.2.2.2.2.2.1; have HS19_ := hs_ hb hHeld.2.2.2.2.2.2.2.2.2.2.2.2.2.2.2.2.2.2.2.1; have HS20_ := hs_ hb hHeld.2.2.2.2.2.2.2.2.2.2.2.2.2.2.2.2.2.2.2.2; refine ⟨_, rfl, ?_⟩; replace HO_0 := Vb HO_0 hb; replace HO_6 := Nb HO_6 hb; replace HL484_5 := Vb HL484_5 hb; replace HL491_5 := Vb HL491_5 hb; replace BK476 := kf BK476 hb; replace BK477 := kf BK477 hb; replace BK478 := kf BK478 hb; replace HR484_5 := Cb HR484_5 hb; replace HR491_5 := Cb HR491_5 hb; replace HB := bs HB hb
           (try clear hb); (try clear hb2); (try clear hk); (try clear hi)
           refine hK.out _ _ ⟨bq14 BK476 0, bq14 BK476 1, bq14 BK476 2, HS3_, HS4_, HS5_, HS6_, HS7_, HS8_, HS9_, HS10_, HS11_, HS12_, HS13_, HS14_, HS15_, HS16_, HS17_, HS18_, HS19_, HS20_⟩ (fun hHeld => ?_)
           clear hK K
           refine norm_ (a' := ?_) ?_ ?_
           rotate_left
           ·show Act.put _ (some 43) _ = _
            simp only [Act.put, List.setIfInBounds_toArray, List.set_cons_zero, List.set_cons_succ, i64_w, i32_w]
            rfl
           refine pu_ (i := 15) (N := some 44) b14_41 HT_ ?_
           refine done_ (done_of HT_.out KR) ?_
           have p493 : 0 ≤ (x7_2 : Int) := od14
           have q493 : x7_2 < (l0.length : Int) := od14
           obtain ⟨ad493, A493_5, c493_5, e493, hx493_0, hx493_1, hx493_2, hx493_3, hx493_4, hx493_5, hx493_6, hx493_7, hx493_8, hl493_5, hi493_5⟩ := at_T40 (Kd.V_reads' HO_0.out).2.2 x7_2 p493 q493
           obtain rfl : ad484 = ad493 := (by injection e493)
           obtain ⟨rfl, rfl⟩ : A493_5 = A491_5 ∧ c493_5 = c491_5 := by have e_ := Option.some.inj (show some (Value.slice A493_5 _ c493_5) = some (Value.slice A491_5 _ c491_5) from hx493_5.symm.trans (by assumption)); first | (injection e_ with a_ b_ c_; exact ⟨a_, c_⟩) | (injection e_ with a_ c_; exact ⟨a_, c_⟩)
           obtain ⟨ce493, hce493, hMe493, hcc493⟩ := Kd.V_get HO_0.out z40 x7_2 p493 (by first | exact q493 | exact od14 | (have e_ := (Kd.V_reads' HO_0.out).1; omega))
           obtain ⟨ua493_5, uc493_5, rfl, ul493_5, ge493_5⟩ := k40_openF hMe493
           have hv493_5 := hcc493 5 _ rfl
           rw [add_field _ _ 5 (by omega)] at hv493_5
           replace hv493_5 := Option.some.inj (hv493_5.symm.trans hx493_5)
           injection hv493_5 with hva_ hvn_ hvc_
           rw [hva_] at ge493_5
           rw [hvc_] at ul493_5
           have HL493_5 := ak (show Kd.V (Kd.int .i64) 3 _ w.heap.size _ _ ((rd_T40 l0 x7_2).f2.f1) from Kd.V_mk ul493_5 ge493_5); clear hva_ hvn_ hvc_ ge493_5 ul493_5; clear hcc493 hce493; have HR493_5 := Aside0.mk hi493_5; have HC493_5 := Aside0.mk hl493_5; clear hi493_5 hl493_5; replace p493 := eq_true p493; replace q493 := eq_true q493
           try go_wp2_with (first | ((with_reducible refine gate_builtin (b := .append) (xs := #[.tmp 45, .tmp 50]) rfl ?_); at_builtin; refine Kd.N_append k40 (w0 := w) w.heap.size rfl (.tmp 45) (.tmp 50) 24 40 (.agg #[(.int .i64 0), (.int .i64 0), (.int .i64 0), (.int .i64 0), (.int .i64 0), (.slice none 0 0), (.int .i64 0), (.int .i64 0), (.int .i64 0)]) 88 rfl Try.underlying24 info40 rfl (by decide) (by omega) u6 x6_2 (⟨(⟨(rd_T40 l0 x7_2).f0.f0, (rd_T40 l0 x7_2).f0.f1, (rd_T40 l0 x7_2).f0.f2⟩ : S26), (rd_T40 l0 x7_2).f1, (⟨(rd_T40 l0 x7_2).f2.f0, (rd_T40 l0 x7_2).f2.f1, (⟨(rd_T40 l0 x7_2).f2.f2.f0, (rd_T40 l0 x7_2).f2.f2.f1, (rd_T40 l0 x7_2).f2.f2.f2⟩ : S26)⟩ : S38)⟩ : S40) [.int .i64 ((rd_T40 l0 x7_2).f0.f0), .int .i64 ((rd_T40 l0 x7_2).f0.f1), .int .i64 ((rd_T40 l0 x7_2).f0.f2), .int .i64 ((rd_T40 l0 x7_2).f1), .int .i64 ((rd_T40 l0 x7_2).f2.f0), .slice A493_5 ((rd_T40 l0 x7_2).f2.f1).length c493_5, .int .i64 ((rd_T40 l0 x7_2).f2.f2.f0), .int .i64 ((rd_T40 l0 x7_2).f2.f2.f1), .int .i64 ((rd_T40 l0 x7_2).f2.f2.f2)] (fun k_ => (P0_ k_ ∨ w.heap.size ≤ k_) ∧ k_ ≠ gb476 ∧ k_ ≠ gb477 ∧ k_ ≠ gb478) (fun k_ => ((fun k_ => (P0_ k_ ∨ w.heap.size ≤ k_) ∧ k_ ≠ gb476 ∧ k_ ≠ gb477 ∧ k_ ≠ gb478)) k_ ∧ some k_ ≠ (u6 : Value).ownBlock) rfl rfl ?aP (fun _ hk => hk) ?aF ?aO ?aB ?aS ?aL ?_; (case aP => first | exact (k40_mkF _ _ (⟨(⟨(rd_T40 l0 x7_2).f0.f0, (rd_T40 l0 x7_2).f0.f1, (rd_T40 l0 x7_2).f0.f2⟩ : S26), (rd_T40 l0 x7_2).f1, (⟨(rd_T40 l0 x7_2).f2.f0, (rd_T40 l0 x7_2).f2.f1, (⟨(rd_T40 l0 x7_2).f2.f2.f0, (rd_T40 l0 x7_2).f2.f2.f1, (rd_T40 l0 x7_2).f2.f2.f2⟩ : S26)⟩ : S38)⟩ : S40) (Kd.V_reads' (Kd.V_mono (ok' := (fun k_ => ((fun k_ => (P0_ k_ ∨ w.heap.size ≤ k_) ∧ k_ ≠ gb476 ∧ k_ ≠ gb477 ∧ k_ ≠ gb478)) k_ ∧ some k_ ≠ (u6 : Value).ownBlock)) (HL493_5.out) (fun k_ hk => ⟨⟨hk.1, ⟨hk.2.2.1, ⟨hk.2.2.2.1, hk.2.2.2.2⟩⟩⟩, hk.2.1⟩))).2.1 (Kd.V_F (Kd.V_mono (ok' := (fun k_ => ((fun k_ => (P0_ k_ ∨ w.heap.size ≤ k_) ∧ k_ ≠ gb476 ∧ k_ ≠ gb477 ∧ k_ ≠ gb478)) k_ ∧ some k_ ≠ (u6 : Value).ownBlock)) (HL493_5.out) (fun k_ hk => ⟨⟨hk.1, ⟨hk.2.2.1, ⟨hk.2.2.2.1, hk.2.2.2.2⟩⟩⟩, hk.2.1⟩)))) | (have z1_ := (Kd.V_mono (ok' := (fun k_ => ((fun k_ => (P0_ k_ ∨ w.heap.size ≤ k_) ∧ k_ ≠ gb476 ∧ k_ ≠ gb477 ∧ k_ ≠ gb478)) k_ ∧ some k_ ≠ (u6 : Value).ownBlock)) (Kd.V_drewN HL493_5.out nd) (fun k_ hk => ⟨⟨hk.1, ⟨hk.2.2.1, ⟨hk.2.2.2.1, hk.2.2.2.2⟩⟩⟩, hk.2.1⟩)); exact k40_mkF _ _ (⟨(⟨(rd_T40 l0 x7_2).f0.f0, (rd_T40 l0 x7_2).f0.f1, (rd_T40 l0 x7_2).f0.f2⟩ : S26), (rd_T40 l0 x7_2).f1, (⟨(rd_T40 l0 x7_2).f2.f0, (rd_T40 l0 x7_2).f2.f1, (⟨(rd_T40 l0 x7_2).f2.f2.f0, (rd_T40 l0 x7_2).f2.f2.f1, (rd_T40 l0 x7_2).f2.f2.f2⟩ : S26)⟩ : S38)⟩ : S40) (Kd.V_reads' z1_).2.1 (Kd.V_F z1_))); (case aB => exact PB); (case aF => exact (fun k_ hk => ⟨(.inr (Nat.le_trans (below_size PB) hk)), Kd.freshB (g := gb476) (o := .cells #[.int .i64 a1_0, .int .i64 a1_1, .int .i64 a1_2] 26 (0, 0)) (PK BK476) k_ hk, Kd.freshB (g := gb477) (o := .cells #[.int .i64 0, .int .i64 0, .int .i64 0, .bool false] 85 (0, 0)) (PK BK477) k_ hk, Kd.freshB (g := gb478) (o := .cells #[.int .i64 0, .int .i64 0, .int .i64 0, .bool false] 85 (0, 0)) (PK BK478) k_ hk⟩)); (case aO => exact (PN HO_6)); (case aS => exact (below_size PB)); (case aL => have := LMc34.out; omega); intro v495 w39 ho hb hg hat; rw [← Ny494.out] at ho; replace HO_0 := ak (Kd.V_afterv (ok := (fun k_ => (P0_ k_ ∨ w.heap.size ≤ k_) ∧ k_ ≠ gb476 ∧ k_ ≠ gb477 ∧ k_ ≠ gb478)) (VX HO_0.out (fun _ hk => ⟨⟨hk.1, ⟨hk.2.2.1, ⟨hk.2.2.2.1, hk.2.2.2.2⟩⟩⟩, hk.2.1⟩)) hg hat); replace BK476 := ak (blk_grown (g := gb476) (o := .cells #[.int .i64 a1_0, .int .i64 a1_1, .int .i64 a1_2] 26 (0, 0)) (PK BK476) hg (Kd.N_ne HO_6.out BK476.out (by decide))); replace BK477 := ak (blk_grown (g := gb477) (o := .cells #[.int .i64 0, .int .i64 0, .int .i64 0, .bool false] 85 (0, 0)) (PK BK477) hg (Kd.N_ne HO_6.out BK477.out (by decide))); replace BK478 := ak (blk_grown (g := gb478) (o := .cells #[.int .i64 0, .int .i64 0, .int .i64 0, .bool false] 85 (0, 0)) (PK BK478) hg (Kd.N_ne HO_6.out BK478.out (by decide))); replace HL484_5 := ak (Kd.V_afterv (ok := (fun k_ => (P0_ k_ ∨ w.heap.size ≤ k_) ∧ k_ ≠ gb476 ∧ k_ ≠ gb477 ∧ k_ ≠ gb478)) (VX HL484_5.out (fun _ hk => ⟨⟨hk.1, ⟨hk.2.2.1, ⟨hk.2.2.2.1, hk.2.2.2.2⟩⟩⟩, hk.2.1⟩)) hg hat); replace HL491_5 := ak (Kd.V_afterv (ok := (fun k_ => (P0_ k_ ∨ w.heap.size ≤ k_) ∧ k_ ≠ gb476 ∧ k_ ≠ gb477 ∧ k_ ≠ gb478)) (VX HL491_5.out (fun _ hk => ⟨⟨hk.1, ⟨hk.2.2.1, ⟨hk.2.2.2.1, hk.2.2.2.2⟩⟩⟩, hk.2.1⟩)) hg hat); replace HL493_5 := ak (Kd.V_afterv (ok := (fun k_ => (P0_ k_ ∨ w.heap.size ≤ k_) ∧ k_ ≠ gb476 ∧ k_ ≠ gb477 ∧ k_ ≠ gb478)) (VX HL493_5.out (fun _ hk => ⟨⟨hk.1, ⟨hk.2.2.1, ⟨hk.2.2.2.1, hk.2.2.2.2⟩⟩⟩, hk.2.1⟩)) hg hat); replace HB := ak hb; have HO496 := ak (ho); clear HO_6; clear ho hb hg hat))
           go_roundg k2
           case measure => have := HJ2.out; have := HK2.out; omega
           case rel => exact ⟨(y494), (wrap64 (x7_2 + 1)), (by first | rfl | (simp; done) | (simp [*]; done)), H', ⟨by have := HJ2.out; have := HK2.out; omega⟩, ⟨VX HO_0.out (fun _ hk => ⟨hk.1.1, ⟨hk.2, ⟨hk.1.2.1, ⟨hk.1.2.2.1, hk.1.2.2.2⟩⟩⟩⟩)⟩, ⟨PN HO496⟩, ⟨PK BK476⟩, ⟨PK BK477⟩, ⟨PK BK478⟩, ⟨PB⟩⟩
          ·rw [if_neg c34] at H
           exact absurd H (by simp)
         ·replace c33 := Bool.eq_false_iff.mpr c33
          subst c33
          have H1 : (spec_LearnForm.l0 k2 l0 x6_2 (wrap64 (x7_2 + 1)) a1_0 a1_1 a1_2 0 0 0 false) = some (r1, r2, r3, r4) := by rw [if_neg (show ¬ (false = true) by decide)] at H; exact H
          clear H; have H := H1; clear H1
          have H' := Aside0.mk H
          clear H
          try go_wp2
          replace HO_0 := ak (Kd.V_drew HO_0.out); replace HO_6 := ak (Kd.N_drew HO_6.out); replace BK476 := ak (blk_drew BK476.out); replace BK477 := ak (blk_drew BK477.out); replace BK478 := ak (blk_drew BK478.out); replace HB := ak (below_drew1 HB.out)
          have p484 : 0 ≤ (x7_2 : Int) := od14
          have q484 : x7_2 < (l0.length : Int) := od14
          obtain ⟨ad484, A484_5, c484_5, e484, hx484_0, hx484_1, hx484_2, hx484_3, hx484_4, hx484_5, hx484_6, hx484_7, hx484_8, hl484_5, hi484_5⟩ := at_T40 (Kd.V_reads' HO_0.out).2.2 x7_2 p484 q484
          cases e484
          obtain ⟨ce484, hce484, hMe484, hcc484⟩ := Kd.V_get HO_0.out z40 x7_2 p484 (by first | exact q484 | exact od14 | (have e_ := (Kd.V_reads' HO_0.out).1; omega))
          obtain ⟨ua484_5, uc484_5, rfl, ul484_5, ge484_5⟩ := k40_openF hMe484
          have hv484_5 := hcc484 5 _ rfl
          rw [add_field _ _ 5 (by omega)] at hv484_5
          replace hv484_5 := Option.some.inj (hv484_5.symm.trans hx484_5)
          injection hv484_5 with hva_ hvn_ hvc_
          rw [hva_] at ge484_5
          rw [hvc_] at ul484_5
          have HL484_5 := ak (show Kd.V (Kd.int .i64) 3 _ w.heap.size _ _ ((rd_T40 l0 x7_2).f2.f1) from Kd.V_mk ul484_5 ge484_5); clear hva_ hvn_ hvc_ ge484_5 ul484_5; clear hcc484 hce484; have HR484_5 := Aside0.mk hi484_5; have HC484_5 := Aside0.mk hl484_5; clear hi484_5 hl484_5; replace p484 := eq_true p484; replace q484 := eq_true q484
          have p491 : 0 ≤ (x7_2 : Int) := od14
          have q491 : x7_2 < (l0.length : Int) := od14
          obtain ⟨ad491, A491_5, c491_5, e491, hx491_0, hx491_1, hx491_2, hx491_3, hx491_4, hx491_5, hx491_6, hx491_7, hx491_8, hl491_5, hi491_5⟩ := at_T40 (Kd.V_reads' HO_0.out).2.2 x7_2 p491 q491
          obtain rfl : ad484 = ad491 := (by injection e491)
          obtain ⟨rfl, rfl⟩ : A491_5 = A484_5 ∧ c491_5 = c484_5 := by have e_ := Option.some.inj (hx491_5.symm.trans hx484_5); first | (injection e_ with a_ b_ c_; exact ⟨a_, c_⟩) | (injection e_ with a_ c_; exact ⟨a_, c_⟩)
          obtain ⟨ce491, hce491, hMe491, hcc491⟩ := Kd.V_get HO_0.out z40 x7_2 p491 (by first | exact q491 | exact od14 | (have e_ := (Kd.V_reads' HO_0.out).1; omega))
          obtain ⟨ua491_5, uc491_5, rfl, ul491_5, ge491_5⟩ := k40_openF hMe491
          have hv491_5 := hcc491 5 _ rfl
          rw [add_field _ _ 5 (by omega)] at hv491_5
          replace hv491_5 := Option.some.inj (hv491_5.symm.trans hx491_5)
          injection hv491_5 with hva_ hvn_ hvc_
          rw [hva_] at ge491_5
          rw [hvc_] at ul491_5
          have HL491_5 := ak (show Kd.V (Kd.int .i64) 3 _ w.heap.size _ _ ((rd_T40 l0 x7_2).f2.f1) from Kd.V_mk ul491_5 ge491_5); clear hva_ hvn_ hvc_ ge491_5 ul491_5; clear hcc491 hce491; have HR491_5 := Aside0.mk hi491_5; have HC491_5 := Aside0.mk hl491_5; clear hi491_5 hl491_5; replace p491 := eq_true p491; replace q491 := eq_true q491
          refine start_ (n := 16) (S := fun w' => w'.cell? ⟨gb476, 0, none⟩ = some (.int .i64 a1_0) ∧ w'.cell? ⟨gb476, 1, none⟩ = some (.int .i64 a1_1) ∧ w'.cell? ⟨gb476, 2, none⟩ = some (.int .i64 a1_2) ∧ w'.cell? (ad484.add ((x7_2).toNat * 9)) = some (.int .i64 ((rd_T40 l0 x7_2).f0.f0)) ∧ w'.cell? ⟨(ad484.add ((x7_2).toNat * 9)).block, (ad484.add ((x7_2).toNat * 9)).off + 1, none⟩ = some (.int .i64 ((rd_T40 l0 x7_2).f0.f1)) ∧ w'.cell? ⟨(ad484.add ((x7_2).toNat * 9)).block, (ad484.add ((x7_2).toNat * 9)).off + 2, none⟩ = some (.int .i64 ((rd_T40 l0 x7_2).f0.f2)) ∧ w'.cell? ⟨(ad484.add ((x7_2).toNat * 9)).block, (ad484.add ((x7_2).toNat * 9)).off + 3, none⟩ = some (.int .i64 ((rd_T40 l0 x7_2).f1)) ∧ w'.cell? ⟨(ad484.add ((x7_2).toNat * 9)).block, (ad484.add ((x7_2).toNat * 9)).off + 4, none⟩ = some (.int .i64 ((rd_T40 l0 x7_2).f2.f0)) ∧ w'.cell? ⟨(ad484.add ((x7_2).toNat * 9)).block, (ad484.add ((x7_2).toNat * 9)).off + 5, none⟩ = some (.slice A491_5 ((rd_T40 l0 x7_2).f2.f1).length c491_5) ∧ w'.cell? ⟨(ad484.add ((x7_2).toNat * 9)).block, (ad484.add ((x7_2).toNat * 9)).off + 6, none⟩ = some (.int .i64 ((rd_T40 l0 x7_2).f2.f2.f0)) ∧ w'.cell? ⟨(ad484.add ((x7_2).toNat * 9)).block, (ad484.add ((x7_2).toNat * 9)).off + 7, none⟩ = some (.int .i64 ((rd_T40 l0 x7_2).f2.f2.f1)) ∧ w'.cell? ⟨(ad484.add ((x7_2).toNat * 9)).block, (ad484.add ((x7_2).toNat * 9)).off + 8, none⟩ = some (.int .i64 ((rd_T40 l0 x7_2).f2.f2.f2)) ∧ w'.cell? (ad484.add ((x7_2).toNat * 9)) = some (.int .i64 ((rd_T40 l0 x7_2).f0.f0)) ∧ w'.cell? ⟨(ad484.add ((x7_2).toNat * 9)).block, (ad484.add ((x7_2).toNat * 9)).off + 1, none⟩ = some (.int .i64 ((rd_T40 l0 x7_2).f0.f1)) ∧ w'.cell? ⟨(ad484.add ((x7_2).toNat * 9)).block, (ad484.add ((x7_2).toNat * 9)).off + 2, none⟩ = some (.int .i64 ((rd_T40 l0 x7_2).f0.f2)) ∧ w'.cell? ⟨(ad484.add ((x7_2).toNat * 9)).block, (ad484.add ((x7_2).toNat * 9)).off + 3, none⟩ = some (.int .i64 ((rd_T40 l0 x7_2).f1)) ∧ w'.cell? ⟨(ad484.add ((x7_2).toNat * 9)).block, (ad484.add ((x7_2).toNat * 9)).off + 4, none⟩ = some (.int .i64 ((rd_T40 l0 x7_2).f2.f0)) ∧ w'.cell? ⟨(ad484.add ((x7_2).toNat * 9)).block, (ad484.add ((x7_2).toNat * 9)).off + 5, none⟩ = some (.slice A491_5 ((rd_T40 l0 x7_2).f2.f1).length c491_5) ∧ w'.cell? ⟨(ad484.add ((x7_2).toNat * 9)).block, (ad484.add ((x7_2).toNat * 9)).off + 6, none⟩ = some (.int .i64 ((rd_T40 l0 x7_2).f2.f2.f0)) ∧ w'.cell? ⟨(ad484.add ((x7_2).toNat * 9)).block, (ad484.add ((x7_2).toNat * 9)).off + 7, none⟩ = some (.int .i64 ((rd_T40 l0 x7_2).f2.f2.f1)) ∧ w'.cell? ⟨(ad484.add ((x7_2).toNat * 9)).block, (ad484.add ((x7_2).toNat * 9)).off + 8, none⟩ = some (.int .i64 ((rd_T40 l0 x7_2).f2.f2.f2))) (ds := []) b14_57 KR rfl rfl ⟨bq14 BK476 0, bq14 BK476 1, bq14 BK476 2, hx484_0, hx484_1, hx484_2, hx484_3, hx484_4, hx484_5, hx484_6, hx484_7, hx484_8, hx491_0, hx491_1, hx491_2, hx491_3, hx491_4, hx491_5, hx491_6, hx491_7, hx491_8⟩ (fun hHeld => ?_); refine with_tabW spec_LearnForm.tab8 spec_LearnForm.bits8 (fun HT_ HW_ => ?_)
          generalize wr.drew = w40 at HO_0 HO_6 BK476 BK477 BK478 HB HL484_5 HL491_5 HR484_5 HR491_5 hx484_0 hx484_1 hx484_2 hx484_3 hx484_4 hx484_5 hx484_6 hx484_7 hx484_8 hx491_0 hx491_1 hx491_2 hx491_3 hx491_4 hx491_5 hx491_6 hx491_7 hx491_8 hHeld ⊢
          refine pu_ (i := 0) (N := some 29) b14_56 HT_ ?_
          refine pu_ (i := 1) (N := some 30) b14_55 HT_ ?_
          refine pu_ (i := 2) (N := some 31) b14_54 HT_ ?_
          refine pu_ (i := 3) (N := some 32) b14_53 HT_ ?_
          refine tk_ (i := 4) (N := some 33) b14_52 rfl rfl HT_ HW_ hHeld ?_
          refine take_ (i := 6) (N := some 35) (v := ?_) (a' := ?_) b14_51 rfl rfl (take_ofW HT_.out HW_.out KR) (fun _ _ _ h => h) (Or.inl ⟨by rfl, ?_⟩) hHeld ?_ ?_
          rotate_left
          ·rintro w' ⟨s0, s1, s2, s3, s4, s5, s6, s7, s8, s9, s10, s11, s12, s13, s14, s15, s16, s17, s18, s19, s20⟩
           go_simp
           with_reducible rfl
          rotate_left
          ·simp only [Act.put, List.setIfInBounds_toArray, List.set_cons_zero, List.set_cons_succ, i64_w, i32_w]
           rfl
          refine one_ (i := 5) (N := some 34) b14_50 rfl rfl (one_of HT_.out KR) (by decide) (fun K hK => ?_)
          refine goes_ Try.func109 KR rfl #[.agg #[.int .i64 ((rd_T40 l0 x7_2).f0.f0), .int .i64 ((rd_T40 l0 x7_2).f0.f1), .int .i64 ((rd_T40 l0 x7_2).f0.f2)]] (by rfl) rfl rfl AR ?_
          with_reducible refine (spec_WithoutQuery.calls ((rd_T40 l0 x7_2).f0.f0) ((rd_T40 l0 x7_2).f0.f1) ((rd_T40 l0 x7_2).f0.f2) t485 t486 t487 _ A29.out).mono ?_
          rintro e w41 ⟨rfl, hb⟩
          have HS3_ := hs_ hb hHeld.2.2.2.1; have HS4_ := hs_ hb hHeld.2.2.2.2.1; have HS5_ := hs_ hb hHeld.2.2.2.2.2.1; have HS6_ := hs_ hb hHeld.2.2.2.2.2.2.1; have HS7_ := hs_ hb hHeld.2.2.2.2.2.2.2.1; have HS8_ := hs_ hb hHeld.2.2.2.2.2.2.2.2.1; have HS9_ := hs_ hb hHeld.2.2.2.2.2.2.2.2.2.1; have HS10_ := hs_ hb hHeld.2.2.2.2.2.2.2.2.2.2.1; have HS11_ := hs_ hb hHeld.2.2.2.2.2.2.2.2.2.2.2.1; have HS12_ := hs_ hb hHeld.2.2.2.2.2.2.2.2.2.2.2.2.1; have HS13_ := hs_ hb hHeld.2.2.2.2.2.2.2.2.2.2.2.2.2.1; have HS14_ := hs_ hb hHeld.2.2.2.2.2.2.2.2.2.2.2.2.2.2.1; have HS15_ := hs_ hb hHeld.2.2.2.2.2.2.2.2.2.2.2.2.2.2.2.1; have HS16_ := hs_ hb hHeld.2.2.2.2.2.2.2.2.2.2.2.2.2.2.2.2.1; have HS17_ := hs_ hb hHeld.2.2.2.2.2.2.2.2.2.2.2.2.2.2.2.2.2.1; have HS18_ := hs_ hb hHeld.2.2.2.2.2.2.2.2.2.2.2.2.2.2.2.2.2.2.1; have HS19_ := hs_ hb hHeld.2.2.2.2.2.2.2.2.2.2.2.2.2.2.2.2.2.2.2.1; have HS20_ := hs_ hb hHeld.2.2.2.2.2.2.2.2.2.2.2.2.2.2.2.2.2.2.2.2; refine ⟨_, rfl, ?_⟩; have n0_ := Vb HO_0 hb; have n1_ := Nb HO_6 hb; have n2_ := Vb HL484_5 hb; have n3_ := kf BK476 hb; have n4_ := kf BK477 hb; have n5_ := kf BK478 hb; have n6_ := Cb HR484_5 hb; have n7_ := bs HB hb; have HL491_5 := Vb HL491_5 hb; have HR491_5 := Cb HR491_5 hb; clear HO_0; clear HO_6; clear HL484_5; clear BK476; clear BK477; clear BK478; clear HR484_5; clear HB; have HO_0 := n0_; have HO_6 := n1_; have HL484_5 := n2_; have BK476 := n3_; have BK477 := n4_; have BK478 := n5_; have HR484_5 := n6_; have HB := n7_; clear n0_ n1_ n2_ n3_ n4_ n5_ n6_ n7_
          (try clear hb); (try clear hb2); (try clear hk); (try clear hi)
          refine hK.out _ _ ⟨bq14 BK476 0, bq14 BK476 1, bq14 BK476 2, HS3_, HS4_, HS5_, HS6_, HS7_, HS8_, HS9_, HS10_, HS11_, HS12_, HS13_, HS14_, HS15_, HS16_, HS17_, HS18_, HS19_, HS20_⟩ (fun hHeld => ?_)
          clear hK K
          refine norm_ (a' := ?_) ?_ ?_
          rotate_left
          ·show Act.put _ (some 34) _ = _
           simp only [Act.put, List.setIfInBounds_toArray, List.set_cons_zero, List.set_cons_succ, i64_w, i32_w]
           rfl
          refine one_ (i := 7) (N := some 36) b14_49 rfl rfl (one_of HT_.out KR) (by decide) (fun K hK => ?_)
          refine goes_ Try.func109 KR rfl #[.agg #[.int .i64 a1_0, .int .i64 a1_1, .int .i64 a1_2]] (by rfl) rfl rfl AR ?_
          with_reducible refine (spec_WithoutQuery.calls a1_0 a1_1 a1_2 t488 t489 t490 _ A30.out).mono ?_
          rintro e w42 ⟨rfl, hb⟩
          have HS3_ := hs_ hb hHeld.2.2.2.1; have HS4_ := hs_ hb hHeld.2.2.2.2.1; have HS5_ := hs_ hb hHeld.2.2.2.2.2.1; have HS6_ := hs_ hb hHeld.2.2.2.2.2.2.1; have HS7_ := hs_ hb hHeld.2.2.2.2.2.2.2.1; have HS8_ := hs_ hb hHeld.2.2.2.2.2.2.2.2.1; have HS9_ := hs_ hb hHeld.2.2.2.2.2.2.2.2.2.1; have HS10_ := hs_ hb hHeld.2.2.2.2.2.2.2.2.2.2.1; have HS11_ := hs_ hb hHeld.2.2.2.2.2.2.2.2.2.2.2.1; have HS12_ := hs_ hb hHeld.2.2.2.2.2.2.2.2.2.2.2.2.1; have HS13_ := hs_ hb hHeld.2.2.2.2.2.2.2.2.2.2.2.2.2.1; have HS14_ := hs_ hb hHeld.2.2.2.2.2.2.2.2.2.2.2.2.2.2.1; have HS15_ := hs_ hb hHeld.2.2.2.2.2.2.2.2.2.2.2.2.2.2.2.1; have HS16_ := hs_ hb hHeld.2.2.2.2.2.2.2.2.2.2.2.2.2.2.2.2.1; have HS17_ := hs_ hb hHeld.2.2.2.2.2.2.2.2.2.2.2.2.2.2.2.2.2.1; have HS18_ := hs_ hb hHeld.2.2.2.2.2.2.2.2.2.2.2.2.2.2.2.2.2.2.1; have HS19_ := hs_ hb hHeld.2.2.2.2.2.2.2.2.2.2.2.2.2.2.2.2.2.2.2.1; have HS20_ := hs_ hb hHeld.2.2.2.2.2.2.2.2.2.2.2.2.2.2.2.2.2.2.2.2; refine ⟨_, rfl, ?_⟩; have n0_ := Vb HO_0 hb; have n1_ := Nb HO_6 hb; have n2_ := Vb HL484_5 hb; have n3_ := kf BK476 hb; have n4_ := kf BK477 hb; have n5_ := kf BK478 hb; have n6_ := Cb HR484_5 hb; have n7_ := bs HB hb; have HL491_5 := Vb HL491_5 hb; have HR491_5 := Cb HR491_5 hb; clear HO_0; clear HO_6; clear HL484_5; clear BK476; clear BK477; clear BK478; clear HR484_5; clear HB; have HO_0 := n0_; have HO_6 := n1_; have HL484_5 := n2_; have BK476 := n3_; have BK477 := n4_; have BK478 := n5_; have HR484_5 := n6_; have HB := n7_; clear n0_ n1_ n2_ n3_ n4_ n5_ n6_ n7_
          (try clear hb); (try clear hb2); (try clear hk); (try clear hi)
          refine hK.out _ _ ⟨bq14 BK476 0, bq14 BK476 1, bq14 BK476 2, HS3_, HS4_, HS5_, HS6_, HS7_, HS8_, HS9_, HS10_, HS11_, HS12_, HS13_, HS14_, HS15_, HS16_, HS17_, HS18_, HS19_, HS20_⟩ (fun hHeld => ?_)
          clear hK K
          refine norm_ (a' := ?_) ?_ ?_
          rotate_left
          ·show Act.put _ (some 36) _ = _
           simp only [Act.put, List.setIfInBounds_toArray, List.set_cons_zero, List.set_cons_succ, i64_w, i32_w]
           rfl
          refine pu_ (i := 8) (N := some 37) b14_48 HT_ ?_
          refine pu_ (i := 9) (N := some 38) b14_47 HT_ ?_
          refine pu_ (i := 10) (N := some 39) b14_46 HT_ ?_
          refine pu_ (i := 11) (N := some 40) b14_45 HT_ ?_
          refine pu_ (i := 12) (N := some 41) b14_44 HT_ ?_
          refine tk_ (i := 13) (N := some 42) b14_43 rfl rfl HT_ HW_ hHeld ?_
          refine one_ (i := 14) (N := some 43) b14_42 rfl rfl (one_of HT_.out KR) (by decide) (fun K hK => ?_)
          refine goes_ Try.func110 KR rfl #[.agg #[.int .i64 ((rd_T40 l0 x7_2).f0.f0), .int .i64 ((rd_T40 l0 x7_2).f0.f1), .int .i64 ((rd_T40 l0 x7_2).f0.f2), .int .i64 ((rd_T40 l0 x7_2).f1), .int .i64 ((rd_T40 l0 x7_2).f2.f0), .slice A491_5 ((rd_T40 l0 x7_2).f2.f1).length c491_5, .int .i64 ((rd_T40 l0 x7_2).f2.f2.f0), .int .i64 ((rd_T40 l0 x7_2).f2.f2.f1), .int .i64 ((rd_T40 l0 x7_2).f2.f2.f2)]] (by rfl) rfl rfl AR ?_
          with_reducible refine (spec_l19Kind.calls k2 ((rd_T40 l0 x7_2).f0.f0) ((rd_T40 l0 x7_2).f0.f1) ((rd_T40 l0 x7_2).f0.f2) ((rd_T40 l0 x7_2).f1) ((rd_T40 l0 x7_2).f2.f0) _ _ ((rd_T40 l0 x7_2).f2.f1) ((rd_T40 l0 x7_2).f2.f2.f0) ((rd_T40 l0 x7_2).f2.f2.f1) ((rd_T40 l0 x7_2).f2.f2.f2) false _ ?side1 ?side2 A32.out).mono ?_
          (case side1 => repeat (first | exact (PC HR491_5) | (with_reducible refine Kd.C_alloc ?_ _) | (with_reducible refine Kd.C_drewN ?_ _) | (with_reducible refine Kd.C_drew ?_)))
          (case side2 => exact HC491_5.out)
          rintro e w43 ⟨rfl, hb⟩
          have HS3_ := hs_ hb hHeld.2.2.2.1; have HS4_ := hs_ hb hHeld.2.2.2.2.1; have HS5_ := hs_ hb hHeld.2.2.2.2.2.1; have HS6_ := hs_ hb hHeld.2.2.2.2.2.2.1; have HS7_ := hs_ hb hHeld.2.2.2.2.2.2.2.1; have HS8_ := hs_ hb hHeld.2.2.2.2.2.2.2.2.1; have HS9_ := hs_ hb hHeld.2.2.2.2.2.2.2.2.2.1; have HS10_ := hs_ hb hHeld.2.2.2.2.2.2.2.2.2.2.1; have HS11_ := hs_ hb hHeld.2.2.2.2.2.2.2.2.2.2.2.1; have HS12_ := hs_ hb hHeld.2.2.2.2.2.2.2.2.2.2.2.2.1; have HS13_ := hs_ hb hHeld.2.2.2.2.2.2.2.2.2.2.2.2.2.1; have HS14_ := hs_ hb hHeld.2.2.2.2.2.2.2.2.2.2.2.2.2.2.1; have HS15_ := hs_ hb hHeld.2.2.2.2.2.2.2.2.2.2.2.2.2.2.2.1; have HS16_ := hs_ hb hHeld.2.2.2.2.2.2.2.2.2.2.2.2.2.2.2.2.1; have HS17_ := hs_ hb hHeld.2.2.2.2.2.2.2.2.2.2.2.2.2.2.2.2.2.1; have HS18_ := hs_ hb hHeld.2.2.2.2.2.2.2.2.2.2.2.2.2.2.2.2.2.2.1; have HS19_ := hs_ hb hHeld.2.2.2.2.2.2.2.2.2.2.2.2.2.2.2.2.2.2.2.1; have HS20_ := hs_ hb hHeld.2.2.2.2.2.2.2.2.2.2.2.2.2.2.2.2.2.2.2.2; refine ⟨_, rfl, ?_⟩; replace HO_0 := Vb HO_0 hb; replace HO_6 := Nb HO_6 hb; replace HL484_5 := Vb HL484_5 hb; replace HL491_5 := Vb HL491_5 hb; replace BK476 := kf BK476 hb; replace BK477 := kf BK477 hb; replace BK478 := kf BK478 hb; replace HR484_5 := Cb HR484_5 hb; replace HR491_5 := Cb HR491_5 hb; replace HB := bs HB hb
          (try clear hb); (try clear hb2); (try clear hk); (try clear hi)
          refine hK.out _ _ ⟨bq14 BK476 0, bq14 BK476 1, bq14 BK476 2, HS3_, HS4_, HS5_, HS6_, HS7_, HS8_, HS9_, HS10_, HS11_, HS12_, HS13_, HS14_, HS15_, HS16_, HS17_, HS18_, HS19_, HS20_⟩ (fun hHeld => ?_)
          clear hK K
          refine norm_ (a' := ?_) ?_ ?_
          rotate_left
          ·show Act.put _ (some 43) _ = _
           simp only [Act.put, List.setIfInBounds_toArray, List.set_cons_zero, List.set_cons_succ, i64_w, i32_w]
           rfl
          refine pu_ (i := 15) (N := some 44) b14_41 HT_ ?_
          refine done_ (done_of HT_.out KR) ?_
          try go_wp2
          go_roundg k2
          case measure => have := HJ2.out; have := HK2.out; omega
          case rel => exact ⟨(x6_2), (wrap64 (x7_2 + 1)), (by first | rfl | (simp; done) | (simp [*]; done)), H', ⟨by have := HJ2.out; have := HK2.out; omega⟩, ⟨PV HO_0⟩, ⟨PN HO_6⟩, ⟨PK BK476⟩, ⟨PK BK477⟩, ⟨PK BK478⟩, ⟨PB⟩⟩
        ·rw [if_neg c31] at H
         have c31b0 : (t485 == t488 && (t486 == t489 && (t487 == t490))) = false := by simpa using c31
         (try (have c31b1 : decide (t485 = t488 && (t486 == t489 && (t487 == t490))) = false := by simpa using c31))
         (try (have c31b2 : (t485 == t488 && (t486 == t489 && (t487 == t490))) = false := by simpa using c31))
         (try (have c31b3 : ¬ (t485 = t488 && (t486 == t489 && (t487 == t490))) := by simpa using c31))
         clear c31
         have H' := Aside0.mk H
         clear H
         try go_wp2
         replace HO_0 := ak (Kd.V_drew HO_0.out); replace HO_6 := ak (Kd.N_drew HO_6.out); replace BK476 := ak (blk_drew BK476.out); replace BK477 := ak (blk_drew BK477.out); replace BK478 := ak (blk_drew BK478.out); replace HB := ak (below_drew1 HB.out)
         have p484 : 0 ≤ (x7_2 : Int) := od14
         have q484 : x7_2 < (l0.length : Int) := od14
         obtain ⟨ad484, A484_5, c484_5, e484, hx484_0, hx484_1, hx484_2, hx484_3, hx484_4, hx484_5, hx484_6, hx484_7, hx484_8, hl484_5, hi484_5⟩ := at_T40 (Kd.V_reads' HO_0.out).2.2 x7_2 p484 q484
         cases e484
         obtain ⟨ce484, hce484, hMe484, hcc484⟩ := Kd.V_get HO_0.out z40 x7_2 p484 (by first | exact q484 | exact od14 | (have e_ := (Kd.V_reads' HO_0.out).1; omega))
         obtain ⟨ua484_5, uc484_5, rfl, ul484_5, ge484_5⟩ := k40_openF hMe484
         have hv484_5 := hcc484 5 _ rfl
         rw [add_field _ _ 5 (by omega)] at hv484_5
         replace hv484_5 := Option.some.inj (hv484_5.symm.trans hx484_5)
         injection hv484_5 with hva_ hvn_ hvc_
         rw [hva_] at ge484_5
         rw [hvc_] at ul484_5
         have HL484_5 := ak (show Kd.V (Kd.int .i64) 3 _ w.heap.size _ _ ((rd_T40 l0 x7_2).f2.f1) from Kd.V_mk ul484_5 ge484_5); clear hva_ hvn_ hvc_ ge484_5 ul484_5; clear hcc484 hce484; have HR484_5 := Aside0.mk hi484_5; have HC484_5 := Aside0.mk hl484_5; clear hi484_5 hl484_5; replace p484 := eq_true p484; replace q484 := eq_true q484
         refine start_ (n := 16) (S := fun w' => w'.cell? ⟨gb476, 0, none⟩ = some (.int .i64 a1_0) ∧ w'.cell? ⟨gb476, 1, none⟩ = some (.int .i64 a1_1) ∧ w'.cell? ⟨gb476, 2, none⟩ = some (.int .i64 a1_2) ∧ w'.cell? (ad484.add ((x7_2).toNat * 9)) = some (.int .i64 ((rd_T40 l0 x7_2).f0.f0)) ∧ w'.cell? ⟨(ad484.add ((x7_2).toNat * 9)).block, (ad484.add ((x7_2).toNat * 9)).off + 1, none⟩ = some (.int .i64 ((rd_T40 l0 x7_2).f0.f1)) ∧ w'.cell? ⟨(ad484.add ((x7_2).toNat * 9)).block, (ad484.add ((x7_2).toNat * 9)).off + 2, none⟩ = some (.int .i64 ((rd_T40 l0 x7_2).f0.f2)) ∧ w'.cell? ⟨(ad484.add ((x7_2).toNat * 9)).block, (ad484.add ((x7_2).toNat * 9)).off + 3, none⟩ = some (.int .i64 ((rd_T40 l0 x7_2).f1)) ∧ w'.cell? ⟨(ad484.add ((x7_2).toNat * 9)).block, (ad484.add ((x7_2).toNat * 9)).off + 4, none⟩ = some (.int .i64 ((rd_T40 l0 x7_2).f2.f0)) ∧ w'.cell? ⟨(ad484.add ((x7_2).toNat * 9)).block, (ad484.add ((x7_2).toNat * 9)).off + 5, none⟩ = some (.slice A484_5 ((rd_T40 l0 x7_2).f2.f1).length c484_5) ∧ w'.cell? ⟨(ad484.add ((x7_2).toNat * 9)).block, (ad484.add ((x7_2).toNat * 9)).off + 6, none⟩ = some (.int .i64 ((rd_T40 l0 x7_2).f2.f2.f0)) ∧ w'.cell? ⟨(ad484.add ((x7_2).toNat * 9)).block, (ad484.add ((x7_2).toNat * 9)).off + 7, none⟩ = some (.int .i64 ((rd_T40 l0 x7_2).f2.f2.f1)) ∧ w'.cell? ⟨(ad484.add ((x7_2).toNat * 9)).block, (ad484.add ((x7_2).toNat * 9)).off + 8, none⟩ = some (.int .i64 ((rd_T40 l0 x7_2).f2.f2.f2))) (ds := []) b14_57 KR rfl rfl ⟨bq14 BK476 0, bq14 BK476 1, bq14 BK476 2, hx484_0, hx484_1, hx484_2, hx484_3, hx484_4, hx484_5, hx484_6, hx484_7, hx484_8⟩ (fun hHeld => ?_); refine with_tabW spec_LearnForm.tab8 spec_LearnForm.bits8 (fun HT_ HW_ => ?_)
         generalize wr.drew = w44 at HO_0 HO_6 BK476 BK477 BK478 HB HL484_5 HR484_5 hx484_0 hx484_1 hx484_2 hx484_3 hx484_4 hx484_5 hx484_6 hx484_7 hx484_8 hHeld ⊢
         refine pu_ (i := 0) (N := some 29) b14_56 HT_ ?_
         refine pu_ (i := 1) (N := some 30) b14_55 HT_ ?_
         refine pu_ (i := 2) (N := some 31) b14_54 HT_ ?_
         refine pu_ (i := 3) (N := some 32) b14_53 HT_ ?_
         refine tk_ (i := 4) (N := some 33) b14_52 rfl rfl HT_ HW_ hHeld ?_
         refine take_ (i := 6) (N := some 35) (v := ?_) (a' := ?_) b14_51 rfl rfl (take_ofW HT_.out HW_.out KR) (fun _ _ _ h => h) (Or.inl ⟨by rfl, ?_⟩) hHeld ?_ ?_
         rotate_left
         ·rintro w' ⟨s0, s1, s2, s3, s4, s5, s6, s7, s8, s9, s10, s11⟩
          go_simp
          with_reducible rfl
         rotate_left
         ·simp only [Act.put, List.setIfInBounds_toArray, List.set_cons_zero, List.set_cons_succ, i64_w, i32_w]
          rfl
         refine one_ (i := 5) (N := some 34) b14_50 rfl rfl (one_of HT_.out KR) (by decide) (fun K hK => ?_)
         refine goes_ Try.func109 KR rfl #[.agg #[.int .i64 ((rd_T40 l0 x7_2).f0.f0), .int .i64 ((rd_T40 l0 x7_2).f0.f1), .int .i64 ((rd_T40 l0 x7_2).f0.f2)]] (by rfl) rfl rfl AR ?_
         with_reducible refine (spec_WithoutQuery.calls ((rd_T40 l0 x7_2).f0.f0) ((rd_T40 l0 x7_2).f0.f1) ((rd_T40 l0 x7_2).f0.f2) t485 t486 t487 _ A29.out).mono ?_
         rintro e w45 ⟨rfl, hb⟩
         have HS3_ := hs_ hb hHeld.2.2.2.1; have HS4_ := hs_ hb hHeld.2.2.2.2.1; have HS5_ := hs_ hb hHeld.2.2.2.2.2.1; have HS6_ := hs_ hb hHeld.2.2.2.2.2.2.1; have HS7_ := hs_ hb hHeld.2.2.2.2.2.2.2.1; have HS8_ := hs_ hb hHeld.2.2.2.2.2.2.2.2.1; have HS9_ := hs_ hb hHeld.2.2.2.2.2.2.2.2.2.1; have HS10_ := hs_ hb hHeld.2.2.2.2.2.2.2.2.2.2.1; have HS11_ := hs_ hb hHeld.2.2.2.2.2.2.2.2.2.2.2; refine ⟨_, rfl, ?_⟩; replace HO_0 := Vb HO_0 hb; replace HO_6 := Nb HO_6 hb; replace HL484_5 := Vb HL484_5 hb; replace BK476 := kf BK476 hb; replace BK477 := kf BK477 hb; replace BK478 := kf BK478 hb; replace HR484_5 := Cb HR484_5 hb; replace HB := bs HB hb
         (try clear hb); (try clear hb2); (try clear hk); (try clear hi)
         refine hK.out _ _ ⟨bq14 BK476 0, bq14 BK476 1, bq14 BK476 2, HS3_, HS4_, HS5_, HS6_, HS7_, HS8_, HS9_, HS10_, HS11_⟩ (fun hHeld => ?_)
         clear hK K
         refine norm_ (a' := ?_) ?_ ?_
         rotate_left
         ·show Act.put _ (some 34) _ = _
          simp only [Act.put, List.setIfInBounds_toArray, List.set_cons_zero, List.set_cons_succ, i64_w, i32_w]
          rfl
         refine one_ (i := 7) (N := some 36) b14_49 rfl rfl (one_of HT_.out KR) (by decide) (fun K hK => ?_)
         refine goes_ Try.func109 KR rfl #[.agg #[.int .i64 a1_0, .int .i64 a1_1, .int .i64 a1_2]] (by rfl) rfl rfl AR ?_
         with_reducible refine (spec_WithoutQuery.calls a1_0 a1_1 a1_2 t488 t489 t490 _ A30.out).mono ?_
         rintro e w46 ⟨rfl, hb⟩
         have HS3_ := hs_ hb hHeld.2.2.2.1; have HS4_ := hs_ hb hHeld.2.2.2.2.1; have HS5_ := hs_ hb hHeld.2.2.2.2.2.1; have HS6_ := hs_ hb hHeld.2.2.2.2.2.2.1; have HS7_ := hs_ hb hHeld.2.2.2.2.2.2.2.1; have HS8_ := hs_ hb hHeld.2.2.2.2.2.2.2.2.1; have HS9_ := hs_ hb hHeld.2.2.2.2.2.2.2.2.2.1; have HS10_ := hs_ hb hHeld.2.2.2.2.2.2.2.2.2.2.1; have HS11_ := hs_ hb hHeld.2.2.2.2.2.2.2.2.2.2.2; refine ⟨_, rfl, ?_⟩; replace HO_0 := Vb HO_0 hb; replace HO_6 := Nb HO_6 hb; replace HL484_5 := Vb HL484_5 hb; replace BK476 := kf BK476 hb; replace BK477 := kf BK477 hb; replace BK478 := kf BK478 hb; replace HR484_5 := Cb HR484_5 hb; replace HB := bs HB hb
         (try clear hb); (try clear hb2); (try clear hk); (try clear hi)
         refine hK.out _ _ ⟨bq14 BK476 0, bq14 BK476 1, bq14 BK476 2, HS3_, HS4_, HS5_, HS6_, HS7_, HS8_, HS9_, HS10_, HS11_⟩ (fun hHeld => ?_)
         clear hK K
         refine norm_ (a' := ?_) ?_ ?_
         rotate_left
         ·show Act.put _ (some 36) _ = _
          simp only [Act.put, List.setIfInBounds_toArray, List.set_cons_zero, List.set_cons_succ, i64_w, i32_w]
          rfl
         refine pu_ (i := 8) (N := some 37) b14_48 HT_ ?_
         refine pu_ (i := 9) (N := some 38) b14_47 HT_ ?_
         refine un_ (i := 10) (N := some 39) b14_46 HT_ ?_
         refine un_ (i := 11) (N := some 40) b14_45 HT_ ?_
         refine un_ (i := 12) (N := some 41) b14_44 HT_ ?_
         refine un_ (i := 13) (N := some 42) b14_43 HT_ ?_
         refine un_ (i := 14) (N := some 43) b14_42 HT_ ?_
         refine pu_ (i := 15) (N := some 44) b14_41 HT_ ?_
         refine done_ (done_of HT_.out KR) ?_
         try go_wp2
         go_roundg k2
         case measure => have := HJ2.out; have := HK2.out; omega
         case rel => exact ⟨(x6_2), (wrap64 (x7_2 + 1)), (by first | rfl | (simp; done) | (simp [*]; done)), H', ⟨by have := HJ2.out; have := HK2.out; omega⟩, ⟨PV HO_0⟩, ⟨PN HO_6⟩, ⟨PK BK476⟩, ⟨PK BK477⟩, ⟨PK BK478⟩, ⟨PB⟩⟩
       ·rw [if_neg c28] at H
        exact absurd H (by simp)
      ·rw [if_neg c27] at H
       have c27b0 : decide (x7_2 < (l0.length : Int)) = false := decide_eq_false c27
       clear c27
       by_cases c47 : (x6_2.length : Int) = 0
       ·rw [if_pos c47] at H
        have c47b0 : ((x6_2.length : Int) == 0) = true := beq_iff_eq.mpr c47
        have c47b1 : ((x6_2.length : Int) != 0) = false := bne_eq_false_iff_eq.mpr c47
        clear c47
        simp only [Option.some.injEq, Prod.mk.injEq] at H
        obtain ⟨rfl, rfl, rfl, rfl⟩ := H
        obtain ⟨Ao48, co48, eo48⟩ := Kd.N_slice HO_6.out
        subst eo48
        have hnb49 := NB478_476.out; have hnc49 := NB476_478.out; have hnb50 := NB478_477.out; have hnc50 := NB477_478.out
        obtain ⟨hcz51_0, hcz51_1, hcz51_2, hcz51_3, hfz51_0, hfz51_1, hfz51_2, hfz51_3⟩ := bc4 BK478
        have hnb52 := NB477_476.out; have hnc52 := NB476_477.out
        obtain ⟨hcz53_0, hcz53_1, hcz53_2, hcz53_3, hfz53_0, hfz53_1, hfz53_2, hfz53_3⟩ := bc4 BK477
        go_wp2
        refine bodyPost_ret (results_cell_row rfl _ _ gb477 85 #[.int .i64 0, .int .i64 0, .int .i64 (x6_2.length : Int), .bool true] (0, 0) _ rfl (PX BK477) Try.underlying85 rfl KR) rfl ?_
        exact ⟨RT, PB⟩
       ·rw [if_neg c47] at H
        have c47b0 : ((x6_2.length : Int) == 0) = false := beq_eq_false_iff_ne.mpr c47
        have c47b1 : ((x6_2.length : Int) != 0) = true := bne_iff_ne.mpr c47
        have c47b2 : ¬ (x6_2 = []) := fun h_ => c47 (by rw [h_]; rfl)
        by_cases c54 : 0 < (x6_2.length : Int)
        ·rw [if_pos c54] at H
         have c54b0 : decide (0 < (x6_2.length : Int)) = true := decide_eq_true c54
         have c54b1 : decide (0 < x6_2.length) = true := decide_eq_true (by omega)
         clear c54; replace H := Option.bind_eq_some_iff.mp H
         obtain ⟨t498, A550, H⟩ := H
         replace H : (spec_LearnForm.l1 k2 x6_2 1 t498 0 (x6_2.length : Int) true) = some (r1, r2, r3, r4) := H
         have A55 := Aside0.mk A550; clear A550; have HC56 := Aside0.mk H; clear H
         obtain ⟨Ao57, co57, eo57⟩ := Kd.N_slice HO_6.out
         subst eo57
         have hnb58 := NB478_476.out; have hnc58 := NB476_478.out; have hnb59 := NB478_477.out; have hnc59 := NB477_478.out
         obtain ⟨hcz60_0, hcz60_1, hcz60_2, hcz60_3, hfz60_0, hfz60_1, hfz60_2, hfz60_3⟩ := bc4 BK478
         go_upto_block 2 with (first | ((with_reducible refine gate_store (t := 3) (p := 54) rfl ?_); refine store_event (t := 3) (p := 54) (v := ?vo_w61) (w1 := (wr.setCell ⟨gb478, 2, none⟩ (.int .i64 (x6_2.length : Int)))) ?hg ?ho ?hn ?hr ?_; (case ho => rfl); (case hg => rfl); (case hn => rfl); (case hr => first | (go_simp; done) | (go_simp; rfl)); intro w61 hw; replace HO_0 : Aside0 (Kd.V k40 40 w61 w.heap.size (fun k_ => (P0_ k_ ∨ w.heap.size ≤ k_) ∧ some k_ ≠ (.slice Ao57 x6_2.length co57 : Value).ownBlock ∧ k_ ≠ gb476 ∧ k_ ≠ gb477 ∧ k_ ≠ gb478) (.slice A0 l0.length c0) l0) := ⟨(by rw [hw]; exact (VX (Kd.V_mono HO_0.out (fun k_ hk => (⟨hk, hk.2.2.2.2⟩ : _ ∧ k_ ≠ gb478))) (fun _ hk => ⟨hk.1.1, ⟨hk.1.2.1, ⟨hk.1.2.2.1, ⟨hk.1.2.2.2.1, hk.1.2.2.2.2⟩⟩⟩⟩)))⟩; replace HO_6 : Aside0 (Kd.N k40 40 w61 w.heap.size (fun k_ => (P0_ k_ ∨ w.heap.size ≤ k_) ∧ k_ ≠ gb476 ∧ k_ ≠ gb477 ∧ k_ ≠ gb478) (.slice Ao57 x6_2.length co57) x6_2) := ⟨(by rw [hw]; exact (NX (Kd.N_mono HO_6.out (fun k_ hk => (⟨hk, hk.2.2.2⟩ : _ ∧ k_ ≠ gb478))) (fun _ hk => ⟨hk.1.1, ⟨hk.1.2.1, ⟨hk.1.2.2.1, hk.1.2.2.2⟩⟩⟩)))⟩; replace BK476 : Aside0 (w61.heap[gb476]? = some (.cells #[.int .i64 a1_0, .int .i64 a1_1, .int .i64 a1_2] 26 (0, 0))) := ⟨(by rw [hw]; exact (PF BK476))⟩; replace BK477 : Aside0 (w61.heap[gb477]? = some (.cells #[.int .i64 0, .int .i64 0, .int .i64 0, .bool false] 85 (0, 0))) := ⟨(by rw [hw]; exact (PF BK477))⟩; replace BK478 : Aside0 (w61.heap[gb478]? = some (.cells #[.int .i64 0, .int .i64 0, .int .i64 (x6_2.length : Int), .bool false] 85 (0, 0))) := ⟨(by rw [hw]; exact (PX BK478))⟩; replace HB : Aside0 (Below w.heap.size w w61) := ⟨(by rw [hw]; exact PB)⟩; clear hw; obtain ⟨hcz62_0, hcz62_1, hcz62_2, hcz62_3, hfz62_0, hfz62_1, hfz62_2, hfz62_3⟩ := bc4 BK478) | ((with_reducible refine gate_store (t := 4) (p := 55) rfl ?_); refine store_event (t := 4) (p := 55) (v := ?vo_w63) (w1 := (w61.setCell ⟨gb478, 3, none⟩ (.bool true))) ?hg ?ho ?hn ?hr ?_; (case ho => rfl); (case hg => rfl); (case hn => rfl); (case hr => first | (go_simp; done) | (go_simp; rfl)); intro w63 hw; replace HO_0 : Aside0 (Kd.V k40 40 w63 w.heap.size (fun k_ => (P0_ k_ ∨ w.heap.size ≤ k_) ∧ some k_ ≠ (.slice Ao57 x6_2.length co57 : Value).ownBlock ∧ k_ ≠ gb476 ∧ k_ ≠ gb477 ∧ k_ ≠ gb478) (.slice A0 l0.length c0) l0) := ⟨(by rw [hw]; exact (VX (Kd.V_mono HO_0.out (fun k_ hk => (⟨hk, hk.2.2.2.2⟩ : _ ∧ k_ ≠ gb478))) (fun _ hk => ⟨hk.1.1, ⟨hk.1.2.1, ⟨hk.1.2.2.1, ⟨hk.1.2.2.2.1, hk.1.2.2.2.2⟩⟩⟩⟩)))⟩; replace HO_6 : Aside0 (Kd.N k40 40 w63 w.heap.size (fun k_ => (P0_ k_ ∨ w.heap.size ≤ k_) ∧ k_ ≠ gb476 ∧ k_ ≠ gb477 ∧ k_ ≠ gb478) (.slice Ao57 x6_2.length co57) x6_2) := ⟨(by rw [hw]; exact (NX (Kd.N_mono HO_6.out (fun k_ hk => (⟨hk, hk.2.2.2⟩ : _ ∧ k_ ≠ gb478))) (fun _ hk => ⟨hk.1.1, ⟨hk.1.2.1, ⟨hk.1.2.2.1, hk.1.2.2.2⟩⟩⟩)))⟩; replace BK476 : Aside0 (w63.heap[gb476]? = some (.cells #[.int .i64 a1_0, .int .i64 a1_1, .int .i64 a1_2] 26 (0, 0))) := ⟨(by rw [hw]; exact (PF BK476))⟩; replace BK477 : Aside0 (w63.heap[gb477]? = some (.cells #[.int .i64 0, .int .i64 0, .int .i64 0, .bool false] 85 (0, 0))) := ⟨(by rw [hw]; exact (PF BK477))⟩; replace BK478 : Aside0 (w63.heap[gb478]? = some (.cells #[.int .i64 0, .int .i64 0, .int .i64 (x6_2.length : Int), .bool true] 85 (0, 0))) := ⟨(by rw [hw]; exact (PX BK478))⟩; replace HB : Aside0 (Below w.heap.size w w63) := ⟨(by rw [hw]; exact PB)⟩; clear hw; have p497 : 0 ≤ (0 : Int) := (by omega); have q497 : 0 < (x6_2.length : Int) := od14; obtain ⟨ad497, A497_5, c497_5, e497, hx497_0, hx497_1, hx497_2, hx497_3, hx497_4, hx497_5, hx497_6, hx497_7, hx497_8, hl497_5, hi497_5⟩ := at_T40 (Kd.N_reads' HO_6.out).2.2 0 p497 q497; cases e497; obtain ⟨ce497, hce497, hMe497, hcc497⟩ := Kd.N_get HO_6.out z40 0 p497 (by first | exact q497 | exact od14 | (have e_ := (Kd.N_reads' HO_6.out).1; omega)); obtain ⟨ua497_5, uc497_5, rfl, ul497_5, ge497_5⟩ := k40_openF hMe497; have hv497_5 := hcc497 5 _ rfl; rw [add_field _ _ 5 (by omega)] at hv497_5; replace hv497_5 := Option.some.inj (hv497_5.symm.trans hx497_5); injection hv497_5 with hva_ hvn_ hvc_; rw [hva_] at ge497_5; rw [hvc_] at ul497_5; have HL497_5 := ak (show Kd.V (Kd.int .i64) 3 _ w.heap.size _ _ ((rd_T40 x6_2 0).f2.f1) from Kd.V_mk ul497_5 ge497_5); clear hva_ hvn_ hvc_ ge497_5 ul497_5; clear hcc497 hce497; have qi497 : (0 < x6_2.length) = True := eq_true (by omega); (try rw [tn14_0] at hx497_0); (try rw [show 0 * 9 = 0 from rfl] at hx497_0); (try rw [Addr.add_zero'] at hx497_0); (try rw [tn14_0] at hx497_1); (try rw [show 0 * 9 = 0 from rfl] at hx497_1); (try rw [Addr.add_zero'] at hx497_1); (try rw [tn14_0] at hx497_2); (try rw [show 0 * 9 = 0 from rfl] at hx497_2); (try rw [Addr.add_zero'] at hx497_2); (try rw [tn14_0] at hx497_3); (try rw [show 0 * 9 = 0 from rfl] at hx497_3); (try rw [Addr.add_zero'] at hx497_3); (try rw [tn14_0] at hx497_4); (try rw [show 0 * 9 = 0 from rfl] at hx497_4); (try rw [Addr.add_zero'] at hx497_4); (try rw [tn14_0] at hx497_5); (try rw [show 0 * 9 = 0 from rfl] at hx497_5); (try rw [Addr.add_zero'] at hx497_5); (try rw [tn14_0] at hx497_6); (try rw [show 0 * 9 = 0 from rfl] at hx497_6); (try rw [Addr.add_zero'] at hx497_6); (try rw [tn14_0] at hx497_7); (try rw [show 0 * 9 = 0 from rfl] at hx497_7); (try rw [Addr.add_zero'] at hx497_7); (try rw [tn14_0] at hx497_8); (try rw [show 0 * 9 = 0 from rfl] at hx497_8); (try rw [Addr.add_zero'] at hx497_8); have HR497_5 := Aside0.mk hi497_5; have HC497_5 := Aside0.mk hl497_5; clear hi497_5 hl497_5; replace p497 := eq_true p497; replace q497 := eq_true q497) | ((with_reducible refine gate_callee (f := 111) rfl ?_); refine goesL_ (some 64) rfl rfl Try.func111 KR rfl #[.agg #[.int .i64 ((rd_T40 x6_2 0).f2.f0), .slice A497_5 ((rd_T40 x6_2 0).f2.f1).length c497_5, .int .i64 ((rd_T40 x6_2 0).f2.f2.f0), .int .i64 ((rd_T40 x6_2 0).f2.f2.f1), .int .i64 ((rd_T40 x6_2 0).f2.f2.f2)]] rfl AR ?_; (with_reducible refine (spec_ValueOfResource.calls k2 ((rd_T40 x6_2 0).f2.f0) _ _ ((rd_T40 x6_2 0).f2.f1) ((rd_T40 x6_2 0).f2.f2.f0) ((rd_T40 x6_2 0).f2.f2.f1) ((rd_T40 x6_2 0).f2.f2.f2) t498 _ ?side1 ?side2 A55.out).mono ?_); (case side1 => repeat (first | exact (PC HR497_5) | (with_reducible refine Kd.C_alloc ?_ _) | (with_reducible refine Kd.C_drewN ?_ _) | (with_reducible refine Kd.C_drew ?_))); (case side2 => exact HC497_5.out); rintro e w64 ⟨rfl, hb⟩; refine ⟨_, rfl, ?_⟩; replace HO_0 := Vb HO_0 hb; replace HO_6 := Nb HO_6 hb; replace HL497_5 := Vb HL497_5 hb; replace BK476 := kf BK476 hb; replace BK477 := kf BK477 hb; replace BK478 := kf BK478 hb; replace HR497_5 := Cb HR497_5 hb; replace HB := bs HB hb; (try clear hb); (try clear hb2); (try clear hk); (try clear hi); obtain ⟨hcz65_0, hcz65_1, hcz65_2, hcz65_3, hfz65_0, hfz65_1, hfz65_2, hfz65_3⟩ := bc4 BK478))
         (try simp only [Act.put, List.setIfInBounds_toArray, List.set_cons_zero, List.set_cons_succ])
         go_cut [] (fun wc => ∃ (kq : Nat) (x479000_55 : Int) (x479001_55 : Int), Aside0 (spec_LearnForm.j3 kq x6_2 x479000_55 x479001_55 (x6_2.length : Int) true = some (r1, r2, r3, r4)) ∧ Aside0 (kq ≤ k2) ∧ Aside0 (Kd.N k40 40 wc w.heap.size (fun k_ => (P0_ k_ ∨ w.heap.size ≤ k_) ∧ k_ ≠ gb476 ∧ k_ ≠ gb477 ∧ k_ ≠ gb478) (.slice (some ad497) x6_2.length co57) x6_2) ∧ Aside0 (wc.heap[gb476]? = some (.cells #[.int .i64 a1_0, .int .i64 a1_1, .int .i64 a1_2] 26 (0, 0))) ∧ Aside0 (wc.heap[gb477]? = some (.cells #[.int .i64 0, .int .i64 0, .int .i64 0, .bool false] 85 (0, 0))) ∧ Aside0 (wc.heap[gb478]? = some (.cells #[.int .i64 x479000_55, .int .i64 x479001_55, .int .i64 (x6_2.length : Int), .bool true] 85 (0, 0))) ∧ Aside0 (Below w.heap.size w wc))
         case first =>
          have H := HC56.out; clear HC56
          have H' := Aside0.mk H
          clear H
          go_wp2
          go_loopg [8] k2 (fun kq v8 w' => ∃ (x8_3 : Int) (x479000_3 : Int) (x479001_3 : Int), v8 = .int .i64 x8_3 ∧ Aside0 (spec_LearnForm.l1 kq x6_2 x8_3 x479000_3 x479001_3 (x6_2.length : Int) true = some (r1, r2, r3, r4)) ∧ Aside0 (kq ≤ k2) ∧ Aside0 (Kd.N k40 40 w' w.heap.size (fun k_ => (P0_ k_ ∨ w.heap.size ≤ k_) ∧ k_ ≠ gb476 ∧ k_ ≠ gb477 ∧ k_ ≠ gb478) (.slice (some ad497) x6_2.length co57) x6_2) ∧ Aside0 (w'.heap[gb476]? = some (.cells #[.int .i64 a1_0, .int .i64 a1_1, .int .i64 a1_2] 26 (0, 0))) ∧ Aside0 (w'.heap[gb477]? = some (.cells #[.int .i64 0, .int .i64 0, .int .i64 0, .bool false] 85 (0, 0))) ∧ Aside0 (w'.heap[gb478]? = some (.cells #[.int .i64 x479000_3, .int .i64 x479001_3, .int .i64 (x6_2.length : Int), .bool true] 85 (0, 0))) ∧ Aside0 (Kd.C (Kd.int .i64) w' A497_5 ((rd_T40 x6_2 0).f2.f1).length ((rd_T40 x6_2 0).f2.f1)) ∧ Aside0 (Below w.heap.size w w'))
          case atStart => exact ⟨(1), (t498), (0), (by first | rfl | (simp; done) | (simp [*]; done)), H', ⟨Nat.le_refl _⟩, ⟨NX (Kd.N_mono HO_6.out (fun k_ hk => (⟨hk, hk.2.2.2⟩ : _ ∧ k_ ≠ gb478))) (fun _ hk => ⟨hk.1.1, ⟨hk.1.2.1, ⟨hk.1.2.2.1, hk.1.2.2.2⟩⟩⟩)⟩, ⟨PF BK476⟩, ⟨PF BK477⟩, ⟨PX BK478⟩, ⟨(Kd.V_reads' (VX (Kd.V_mono HL497_5.out (fun k_ hk => (⟨hk, hk.1.2.2.2⟩ : _ ∧ k_ ≠ gb478))) (fun _ h_ => h_.1))).2.2⟩, ⟨PB⟩⟩
          case round =>
           clear H'
           (try clear c1); (try clear c2); (try clear p2); (try clear c3); (try clear c4); (try clear p4); (try clear q4); (try clear hx4); (try clear qi4); (try clear c5); (try clear p6); (try clear c10); (try clear c11); (try clear c27); (try clear c27b0); (try clear c28); (try clear c31); (try clear c31b0); (try clear c31b1); (try clear c31b2); (try clear c47); (try clear c47b0); (try clear c47b1); (try clear c47b2); (try clear c48); (try clear p48); (try clear q48); (try clear hx48); (try clear c49); (try clear p49); (try clear q49); (try clear hx49); (try clear qi49); (try clear c50); (try clear c52); (try clear c54); (try clear c54b0); (try clear c54b1); (try clear c58); (try clear c59); (try clear p64); (try clear hcz51_0); (try clear hcz51_1); (try clear hcz51_2); (try clear hcz51_3); (try clear hcz53_0); (try clear hcz53_1); (try clear hcz53_2); (try clear hcz53_3); (try clear hcz60_0); (try clear hcz60_1); (try clear hcz60_2); (try clear hcz60_3); (try clear hcz62_0); (try clear hcz62_1); (try clear hcz62_2); (try clear hcz62_3); (try clear hcz65_0); (try clear hcz65_1); (try clear hcz65_2); (try clear hcz65_3); (try clear hfz51_0); (try clear hfz51_1); (try clear hfz51_2); (try clear hfz51_3); (try clear hfz53_0); (try clear hfz53_1); (try clear hfz53_2); (try clear hfz53_3); (try clear hfz60_0); (try clear hfz60_1); (try clear hfz60_2); (try clear hfz60_3); (try clear hfz62_0); (try clear hfz62_1); (try clear hfz62_2); (try clear hfz62_3); (try clear hfz65_0); (try clear hfz65_1); (try clear hfz65_2); (try clear hfz65_3); (try clear hx484_0); (try clear hx484_1); (try clear hx484_2); (try clear hx484_3); (try clear hx484_4); (try clear hx484_5); (try clear hx484_6); (try clear hx484_7); (try clear hx484_8); (try clear hx497_0); (try clear hx497_1); (try clear hx497_2); (try clear hx497_3); (try clear hx497_4); (try clear hx497_5); (try clear hx497_6); (try clear hx497_7); (try clear hx497_8); (try clear p484); (try clear p497); (try clear q484); (try clear q497)
           obtain ⟨x8_3, x479000_3, x479001_3, rfl, HA, HK3, HO_6, BK476, BK477, BK478, HR497_5, HB⟩ := hrel
           cases gk with
           | zero => exact absurd HA.out (by simp [spec_LearnForm.l1])
           | succ k3 =>
            have H := HA.out; clear HA
            simp only [spec_LearnForm.l1] at H
            by_cases c66 : x8_3 < (x6_2.length : Int)
            ·rw [if_pos c66] at H
             have c66b0 : decide (x8_3 < (x6_2.length : Int)) = true := decide_eq_true c66
             clear c66
             (first | rw [c66b0] | (simp only [i64_w, i32_w]; rw [c66b0]) | skip)
             by_cases c67 : 0 ≤ x8_3
             ·rw [if_pos c67] at H
              have c67b0 : decide (0 ≤ x8_3) = true := decide_eq_true c67
              clear c67
              by_cases c68 : 0 < (x6_2.length : Int)
              ·rw [if_pos c68] at H
               have c68b0 : decide (0 < (x6_2.length : Int)) = true := decide_eq_true c68
               have c68b1 : decide (0 < x6_2.length) = true := decide_eq_true (by omega)
               clear c68
               by_cases c69 : (!(((rd_T40 x6_2 x8_3).f0.f0) == ((rd_T40 x6_2 0).f0.f0)) || (!(((rd_T40 x6_2 x8_3).f0.f1) == ((rd_T40 x6_2 0).f0.f1)) || (!(((rd_T40 x6_2 x8_3).f0.f2) == ((rd_T40 x6_2 0).f0.f2))))) = true
               ·rw [if_pos c69] at H
                have c69b0 : (!(((rd_T40 x6_2 x8_3).f0.f0) == ((rd_T40 x6_2 0).f0.f0)) || (!(((rd_T40 x6_2 x8_3).f0.f1) == ((rd_T40 x6_2 0).f0.f1)) || (!(((rd_T40 x6_2 x8_3).f0.f2) == ((rd_T40 x6_2 0).f0.f2))))) = true := c69
                clear c69; replace H := Option.bind_eq_some_iff.mp H
                obtain ⟨⟨t503, t504⟩, A700, H⟩ := H
                replace H : (if t503 ≥ 0 then (spec_LearnForm.j3 k3 x6_2 t504 t503 (x6_2.length : Int) true) else (spec_LearnForm.j3 k3 x6_2 x479000_3 x479001_3 (x6_2.length : Int) true)) = some (r1, r2, r3, r4) := H
                have A70 := Aside0.mk A700; clear A700
                by_cases c71 : t503 ≥ 0
                ·rw [if_pos c71] at H
                 have c71b0 : decide (0 ≤ t503) = true := decide_eq_true c71
                 clear c71
                 have H' := Aside0.mk H
                 clear H
                 try go_wp2
                 replace HO_6 := ak (Kd.N_drew HO_6.out); replace BK476 := ak (blk_drew BK476.out); replace BK477 := ak (blk_drew BK477.out); replace BK478 := ak (blk_drew BK478.out); replace HR497_5 := ak (Kd.C_drew HR497_5.out); replace HB := ak (below_drew1 HB.out)
                 have p499 : 0 ≤ (x8_3 : Int) := od14
                 have q499 : x8_3 < (x6_2.length : Int) := od14
                 obtain ⟨ad499, A499_5, c499_5, e499, hx499_0, hx499_1, hx499_2, hx499_3, hx499_4, hx499_5, hx499_6, hx499_7, hx499_8, hl499_5, hi499_5⟩ := at_T40 (Kd.N_reads' HO_6.out).2.2 x8_3 p499 q499
                 obtain rfl : ad497 = ad499 := (by injection e499)
                 obtain ⟨ce499, hce499, hMe499, hcc499⟩ := Kd.N_get HO_6.out z40 x8_3 p499 (by first | exact q499 | exact od14 | (have e_ := (Kd.N_reads' HO_6.out).1; omega))
                 obtain ⟨ua499_5, uc499_5, rfl, ul499_5, ge499_5⟩ := k40_openF hMe499
                 have hv499_5 := hcc499 5 _ rfl
                 rw [add_field _ _ 5 (by omega)] at hv499_5
                 replace hv499_5 := Option.some.inj (hv499_5.symm.trans hx499_5)
                 injection hv499_5 with hva_ hvn_ hvc_
                 rw [hva_] at ge499_5
                 rw [hvc_] at ul499_5
                 have HL499_5 := ak (show Kd.V (Kd.int .i64) 3 _ w.heap.size _ _ ((rd_T40 x6_2 x8_3).f2.f1) from Kd.V_mk ul499_5 ge499_5); clear hva_ hvn_ hvc_ ge499_5 ul499_5; clear hcc499 hce499; have HR499_5 := Aside0.mk hi499_5; have HC499_5 := Aside0.mk hl499_5; clear hi499_5 hl499_5; replace p499 := eq_true p499; replace q499 := eq_true q499
                 have p500 : 0 ≤ (0 : Int) := (by omega)
                 have q500 : 0 < (x6_2.length : Int) := od14
                 obtain ⟨ad500, A500_5, c500_5, e500, hx500_0, hx500_1, hx500_2, hx500_3, hx500_4, hx500_5, hx500_6, hx500_7, hx500_8, hl500_5, hi500_5⟩ := at_T40 (Kd.N_reads' HO_6.out).2.2 0 p500 q500
                 obtain rfl : ad497 = ad500 := (by injection e500)
                 obtain ⟨ce500, hce500, hMe500, hcc500⟩ := Kd.N_get HO_6.out z40 0 p500 (by first | exact q500 | exact od14 | (have e_ := (Kd.N_reads' HO_6.out).1; omega))
                 obtain ⟨ua500_5, uc500_5, rfl, ul500_5, ge500_5⟩ := k40_openF hMe500
                 have hv500_5 := hcc500 5 _ rfl
                 rw [add_field _ _ 5 (by omega)] at hv500_5
                 replace hv500_5 := Option.some.inj (hv500_5.symm.trans hx500_5)
                 injection hv500_5 with hva_ hvn_ hvc_
                 rw [hva_] at ge500_5
                 rw [hvc_] at ul500_5
                 have HL500_5 := ak (show Kd.V (Kd.int .i64) 3 _ w.heap.size _ _ ((rd_T40 x6_2 0).f2.f1) from Kd.V_mk ul500_5 ge500_5); clear hva_ hvn_ hvc_ ge500_5 ul500_5; clear hcc500 hce500
                 have qi500 : (0 < x6_2.length) = True := eq_true (by omega)
                 (try rw [tn14_0] at hx500_0)
                 (try rw [show 0 * 9 = 0 from rfl] at hx500_0)
                 (try rw [Addr.add_zero'] at hx500_0)
                 (try rw [tn14_0] at hx500_1)
                 (try rw [show 0 * 9 = 0 from rfl] at hx500_1)
                 (try rw [Addr.add_zero'] at hx500_1)
                 (try rw [tn14_0] at hx500_2)
                 (try rw [show 0 * 9 = 0 from rfl] at hx500_2)
                 (try rw [Addr.add_zero'] at hx500_2)
                 (try rw [tn14_0] at hx500_3)
                 (try rw [show 0 * 9 = 0 from rfl] at hx500_3)
                 (try rw [Addr.add_zero'] at hx500_3)
                 (try rw [tn14_0] at hx500_4)
                 (try rw [show 0 * 9 = 0 from rfl] at hx500_4)
                 (try rw [Addr.add_zero'] at hx500_4)
                 (try rw [tn14_0] at hx500_5)
                 (try rw [show 0 * 9 = 0 from rfl] at hx500_5)
                 (try rw [Addr.add_zero'] at hx500_5)
                 (try rw [tn14_0] at hx500_6)
                 (try rw [show 0 * 9 = 0 from rfl] at hx500_6)
                 (try rw [Addr.add_zero'] at hx500_6)
                 (try rw [tn14_0] at hx500_7)
                 (try rw [show 0 * 9 = 0 from rfl] at hx500_7)
                 (try rw [Addr.add_zero'] at hx500_7)
                 (try rw [tn14_0] at hx500_8)
                 (try rw [show 0 * 9 = 0 from rfl] at hx500_8)
                 (try rw [Addr.add_zero'] at hx500_8)
                 have HR500_5 := Aside0.mk hi500_5; have HC500_5 := Aside0.mk hl500_5; clear hi500_5 hl500_5; replace p500 := eq_true p500; replace q500 := eq_true q500
                 refine start_ (n := 10) (S := fun w' => w'.cell? (ad497.add ((x8_3).toNat * 9)) = some (.int .i64 ((rd_T40 x6_2 x8_3).f0.f0)) ∧ w'.cell? ⟨(ad497.add ((x8_3).toNat * 9)).block, (ad497.add ((x8_3).toNat * 9)).off + 1, none⟩ = some (.int .i64 ((rd_T40 x6_2 x8_3).f0.f1)) ∧ w'.cell? ⟨(ad497.add ((x8_3).toNat * 9)).block, (ad497.add ((x8_3).toNat * 9)).off + 2, none⟩ = some (.int .i64 ((rd_T40 x6_2 x8_3).f0.f2)) ∧ w'.cell? ⟨(ad497.add ((x8_3).toNat * 9)).block, (ad497.add ((x8_3).toNat * 9)).off + 3, none⟩ = some (.int .i64 ((rd_T40 x6_2 x8_3).f1)) ∧ w'.cell? ⟨(ad497.add ((x8_3).toNat * 9)).block, (ad497.add ((x8_3).toNat * 9)).off + 4, none⟩ = some (.int .i64 ((rd_T40 x6_2 x8_3).f2.f0)) ∧ w'.cell? ⟨(ad497.add ((x8_3).toNat * 9)).block, (ad497.add ((x8_3).toNat * 9)).off + 5, none⟩ = some (.slice A499_5 ((rd_T40 x6_2 x8_3).f2.f1).length c499_5) ∧ w'.cell? ⟨(ad497.add ((x8_3).toNat * 9)).block, (ad497.add ((x8_3).toNat * 9)).off + 6, none⟩ = some (.int .i64 ((rd_T40 x6_2 x8_3).f2.f2.f0)) ∧ w'.cell? ⟨(ad497.add ((x8_3).toNat * 9)).block, (ad497.add ((x8_3).toNat * 9)).off + 7, none⟩ = some (.int .i64 ((rd_T40 x6_2 x8_3).f2.f2.f1)) ∧ w'.cell? ⟨(ad497.add ((x8_3).toNat * 9)).block, (ad497.add ((x8_3).toNat * 9)).off + 8, none⟩ = some (.int .i64 ((rd_T40 x6_2 x8_3).f2.f2.f2)) ∧ w'.cell? ad497 = some (.int .i64 ((rd_T40 x6_2 0).f0.f0)) ∧ w'.cell? ⟨ad497.block, ad497.off + 1, none⟩ = some (.int .i64 ((rd_T40 x6_2 0).f0.f1)) ∧ w'.cell? ⟨ad497.block, ad497.off + 2, none⟩ = some (.int .i64 ((rd_T40 x6_2 0).f0.f2)) ∧ w'.cell? ⟨ad497.block, ad497.off + 3, none⟩ = some (.int .i64 ((rd_T40 x6_2 0).f1)) ∧ w'.cell? ⟨ad497.block, ad497.off + 4, none⟩ = some (.int .i64 ((rd_T40 x6_2 0).f2.f0)) ∧ w'.cell? ⟨ad497.block, ad497.off + 5, none⟩ = some (.slice A500_5 ((rd_T40 x6_2 0).f2.f1).length c500_5) ∧ w'.cell? ⟨ad497.block, ad497.off + 6, none⟩ = some (.int .i64 ((rd_T40 x6_2 0).f2.f2.f0)) ∧ w'.cell? ⟨ad497.block, ad497.off + 7, none⟩ = some (.int .i64 ((rd_T40 x6_2 0).f2.f2.f1)) ∧ w'.cell? ⟨ad497.block, ad497.off + 8, none⟩ = some (.int .i64 ((rd_T40 x6_2 0).f2.f2.f2))) (ds := []) b14_10 KR rfl rfl ⟨hx499_0, hx499_1, hx499_2, hx499_3, hx499_4, hx499_5, hx499_6, hx499_7, hx499_8, hx500_0, hx500_1, hx500_2, hx500_3, hx500_4, hx500_5, hx500_6, hx500_7, hx500_8⟩ (fun hHeld => ?_); refine with_tabW spec_LearnForm.tab18 spec_LearnForm.bits18 (fun HT_ HW_ => ?_)
                 generalize wr.drew = w72 at HO_6 BK476 BK477 BK478 HR497_5 HB HL499_5 HL500_5 HR499_5 HR500_5 hx499_0 hx499_1 hx499_2 hx499_3 hx499_4 hx499_5 hx499_6 hx499_7 hx499_8 hx500_0 hx500_1 hx500_2 hx500_3 hx500_4 hx500_5 hx500_6 hx500_7 hx500_8 hHeld ⊢
                 refine pu_ (i := 0) (N := some 72) b14_9 HT_ ?_
                 refine pu_ (i := 1) (N := some 73) b14_8 HT_ ?_
                 refine pu_ (i := 2) (N := some 74) b14_7 HT_ ?_
                 refine pu_ (i := 3) (N := some 75) b14_6 HT_ ?_
                 refine pu_ (i := 5) (N := some 77) b14_5 HT_ ?_
                 refine pu_ (i := 6) (N := some 78) b14_4 HT_ ?_
                 refine pu_ (i := 7) (N := some 79) b14_3 HT_ ?_
                 refine tk_ (i := 4) (N := some 76) b14_2 rfl rfl HT_ HW_ hHeld ?_
                 refine take_ (i := 8) (N := some 80) (v := ?_) (a' := ?_) b14_1 rfl rfl (take_ofW HT_.out HW_.out KR) (fun _ _ _ h => h) (Or.inl ⟨by rfl, ?_⟩) hHeld ?_ ?_
                 rotate_left
                 ·rintro w' ⟨s0, s1, s2, s3, s4, s5, s6, s7, s8, s9, s10, s11, s12, s13, s14, s15, s16, s17⟩
                  go_simp
                  with_reducible rfl
                 rotate_left
                 ·simp only [Act.put, List.setIfInBounds_toArray, List.set_cons_zero, List.set_cons_succ, i64_w, i32_w]
                  rfl
                 refine pu_ (i := 9) (N := some 81) b14_0 HT_ ?_
                 refine done_ (done_of HT_.out KR) ?_
                 try go_wp2
                 replace HO_6 := ak (Kd.N_drew HO_6.out); replace HL499_5 := ak (Kd.V_drew HL499_5.out); replace HL500_5 := ak (Kd.V_drew HL500_5.out); replace BK476 := ak (blk_drew BK476.out); replace BK477 := ak (blk_drew BK477.out); replace BK478 := ak (blk_drew BK478.out); replace HR497_5 := ak (Kd.C_drew HR497_5.out); replace HR499_5 := ak (Kd.C_drew HR499_5.out); replace HR500_5 := ak (Kd.C_drew HR500_5.out); replace HB := ak (below_drew1 HB.out)
                 have p501 : 0 ≤ (0 : Int) := (by omega)
                 have q501 : 0 < (x6_2.length : Int) := od14
                 obtain ⟨ad501, A501_5, c501_5, e501, hx501_0, hx501_1, hx501_2, hx501_3, hx501_4, hx501_5, hx501_6, hx501_7, hx501_8, hl501_5, hi501_5⟩ := at_T40 (Kd.N_reads' HO_6.out).2.2 0 p501 q501
                 obtain rfl : ad497 = ad501 := (by injection e501)
                 obtain ⟨ce501, hce501, hMe501, hcc501⟩ := Kd.N_get HO_6.out z40 0 p501 (by first | exact q501 | exact od14 | (have e_ := (Kd.N_reads' HO_6.out).1; omega))
                 obtain ⟨ua501_5, uc501_5, rfl, ul501_5, ge501_5⟩ := k40_openF hMe501
                 have hv501_5 := hcc501 5 _ rfl
                 rw [add_field _ _ 5 (by omega)] at hv501_5
                 replace hv501_5 := Option.some.inj (hv501_5.symm.trans hx501_5)
                 injection hv501_5 with hva_ hvn_ hvc_
                 rw [hva_] at ge501_5
                 rw [hvc_] at ul501_5
                 have HL501_5 := ak (show Kd.V (Kd.int .i64) 3 _ w.heap.size _ _ ((rd_T40 x6_2 0).f2.f1) from Kd.V_mk ul501_5 ge501_5); clear hva_ hvn_ hvc_ ge501_5 ul501_5; clear hcc501 hce501
                 have qi501 : (0 < x6_2.length) = True := eq_true (by omega)
                 (try rw [tn14_0] at hx501_0)
                 (try rw [show 0 * 9 = 0 from rfl] at hx501_0)
                 (try rw [Addr.add_zero'] at hx501_0)
                 (try rw [tn14_0] at hx501_1)
                 (try rw [show 0 * 9 = 0 from rfl] at hx501_1)
                 (try rw [Addr.add_zero'] at hx501_1)
                 (try rw [tn14_0] at hx501_2)
                 (try rw [show 0 * 9 = 0 from rfl] at hx501_2)
                 (try rw [Addr.add_zero'] at hx501_2)
                 (try rw [tn14_0] at hx501_3)
                 (try rw [show 0 * 9 = 0 from rfl] at hx501_3)
                 (try rw [Addr.add_zero'] at hx501_3)
                 (try rw [tn14_0] at hx501_4)
                 (try rw [show 0 * 9 = 0 from rfl] at hx501_4)
                 (try rw [Addr.add_zero'] at hx501_4)
                 (try rw [tn14_0] at hx501_5)
                 (try rw [show 0 * 9 = 0 from rfl] at hx501_5)
                 (try rw [Addr.add_zero'] at hx501_5)
                 (try rw [tn14_0] at hx501_6)
                 (try rw [show 0 * 9 = 0 from rfl] at hx501_6)
                 (try rw [Addr.add_zero'] at hx501_6)
                 (try rw [tn14_0] at hx501_7)
                 (try rw [show 0 * 9 = 0 from rfl] at hx501_7)
                 (try rw [Addr.add_zero'] at hx501_7)
                 (try rw [tn14_0] at hx501_8)
                 (try rw [show 0 * 9 = 0 from rfl] at hx501_8)
                 (try rw [Addr.add_zero'] at hx501_8)
                 have HR501_5 := Aside0.mk hi501_5; have HC501_5 := Aside0.mk hl501_5; clear hi501_5 hl501_5; replace p501 := eq_true p501; replace q501 := eq_true q501
                 have p502 : 0 ≤ (x8_3 : Int) := od14
                 have q502 : x8_3 < (x6_2.length : Int) := od14
                 obtain ⟨ad502, A502_5, c502_5, e502, hx502_0, hx502_1, hx502_2, hx502_3, hx502_4, hx502_5, hx502_6, hx502_7, hx502_8, hl502_5, hi502_5⟩ := at_T40 (Kd.N_reads' HO_6.out).2.2 x8_3 p502 q502
                 obtain rfl : ad497 = ad502 := (by injection e502)
                 obtain ⟨ce502, hce502, hMe502, hcc502⟩ := Kd.N_get HO_6.out z40 x8_3 p502 (by first | exact q502 | exact od14 | (have e_ := (Kd.N_reads' HO_6.out).1; omega))
                 obtain ⟨ua502_5, uc502_5, rfl, ul502_5, ge502_5⟩ := k40_openF hMe502
                 have hv502_5 := hcc502 5 _ rfl
                 rw [add_field _ _ 5 (by omega)] at hv502_5
                 replace hv502_5 := Option.some.inj (hv502_5.symm.trans hx502_5)
                 injection hv502_5 with hva_ hvn_ hvc_
                 rw [hva_] at ge502_5
                 rw [hvc_] at ul502_5
                 have HL502_5 := ak (show Kd.V (Kd.int .i64) 3 _ w.heap.size _ _ ((rd_T40 x6_2 x8_3).f2.f1) from Kd.V_mk ul502_5 ge502_5); clear hva_ hvn_ hvc_ ge502_5 ul502_5; clear hcc502 hce502; have HR502_5 := Aside0.mk hi502_5; have HC502_5 := Aside0.mk hl502_5; clear hi502_5 hl502_5; replace p502 := eq_true p502; replace q502 := eq_true q502
                 refine start_ (n := 13) (S := fun w' => w'.cell? ad497 = some (.int .i64 ((rd_T40 x6_2 0).f0.f0)) ∧ w'.cell? ⟨ad497.block, ad497.off + 1, none⟩ = some (.int .i64 ((rd_T40 x6_2 0).f0.f1)) ∧ w'.cell? ⟨ad497.block, ad497.off + 2, none⟩ = some (.int .i64 ((rd_T40 x6_2 0).f0.f2)) ∧ w'.cell? ⟨ad497.block, ad497.off + 3, none⟩ = some (.int .i64 ((rd_T40 x6_2 0).f1)) ∧ w'.cell? ⟨ad497.block, ad497.off + 4, none⟩ = some (.int .i64 ((rd_T40 x6_2 0).f2.f0)) ∧ w'.cell? ⟨ad497.block, ad497.off + 5, none⟩ = some (.slice A501_5 ((rd_T40 x6_2 0).f2.f1).length c501_5) ∧ w'.cell? ⟨ad497.block, ad497.off + 6, none⟩ = some (.int .i64 ((rd_T40 x6_2 0).f2.f2.f0)) ∧ w'.cell? ⟨ad497.block, ad497.off + 7, none⟩ = some (.int .i64 ((rd_T40 x6_2 0).f2.f2.f1)) ∧ w'.cell? ⟨ad497.block, ad497.off + 8, none⟩ = some (.int .i64 ((rd_T40 x6_2 0).f2.f2.f2)) ∧ w'.cell? (ad497.add ((x8_3).toNat * 9)) = some (.int .i64 ((rd_T40 x6_2 x8_3).f0.f0)) ∧ w'.cell? ⟨(ad497.add ((x8_3).toNat * 9)).block, (ad497.add ((x8_3).toNat * 9)).off + 1, none⟩ = some (.int .i64 ((rd_T40 x6_2 x8_3).f0.f1)) ∧ w'.cell? ⟨(ad497.add ((x8_3).toNat * 9)).block, (ad497.add ((x8_3).toNat * 9)).off + 2, none⟩ = some (.int .i64 ((rd_T40 x6_2 x8_3).f0.f2)) ∧ w'.cell? ⟨(ad497.add ((x8_3).toNat * 9)).block, (ad497.add ((x8_3).toNat * 9)).off + 3, none⟩ = some (.int .i64 ((rd_T40 x6_2 x8_3).f1)) ∧ w'.cell? ⟨(ad497.add ((x8_3).toNat * 9)).block, (ad497.add ((x8_3).toNat * 9)).off + 4, none⟩ = some (.int .i64 ((rd_T40 x6_2 x8_3).f2.f0)) ∧ w'.cell? ⟨(ad497.add ((x8_3).toNat * 9)).block, (ad497.add ((x8_3).toNat * 9)).off + 5, none⟩ = some (.slice A502_5 ((rd_T40 x6_2 x8_3).f2.f1).length c502_5) ∧ w'.cell? ⟨(ad497.add ((x8_3).toNat * 9)).block, (ad497.add ((x8_3).toNat * 9)).off + 6, none⟩ = some (.int .i64 ((rd_T40 x6_2 x8_3).f2.f2.f0)) ∧ w'.cell? ⟨(ad497.add ((x8_3).toNat * 9)).block, (ad497.add ((x8_3).toNat * 9)).off + 7, none⟩ = some (.int .i64 ((rd_T40 x6_2 x8_3).f2.f2.f1)) ∧ w'.cell? ⟨(ad497.add ((x8_3).toNat * 9)).block, (ad497.add ((x8_3).toNat * 9)).off + 8, none⟩ = some (.int .i64 ((rd_T40 x6_2 x8_3).f2.f2.f2))) (ds := []) b14_40 KR rfl rfl ⟨hx501_0, hx501_1, hx501_2, hx501_3, hx501_4, hx501_5, hx501_6, hx501_7, hx501_8, hx502_0, hx502_1, hx502_2, hx502_3, hx502_4, hx502_5, hx502_6, hx502_7, hx502_8⟩ (fun hHeld => ?_); refine with_tabW spec_LearnForm.tab19 spec_LearnForm.bits19 (fun HT_ HW_ => ?_)
                 generalize w72.drew = w73 at HO_6 HL499_5 HL500_5 BK476 BK477 BK478 HR497_5 HR499_5 HR500_5 HB HL501_5 HL502_5 HR501_5 HR502_5 hx501_0 hx501_1 hx501_2 hx501_3 hx501_4 hx501_5 hx501_6 hx501_7 hx501_8 hx502_0 hx502_1 hx502_2 hx502_3 hx502_4 hx502_5 hx502_6 hx502_7 hx502_8 hHeld ⊢
                 refine pu_ (i := 0) (N := some 83) b14_39 HT_ ?_
                 refine pu_ (i := 1) (N := some 84) b14_38 HT_ ?_
                 refine pu_ (i := 3) (N := some 86) b14_37 HT_ ?_
                 refine pu_ (i := 4) (N := some 87) b14_36 HT_ ?_
                 refine pu_ (i := 5) (N := some 88) b14_35 HT_ ?_
                 refine tk_ (i := 2) (N := some 85) b14_34 rfl rfl HT_ HW_ hHeld ?_
                 refine take_ (i := 6) (N := some 89) (v := ?_) (a' := ?_) b14_33 rfl rfl (take_ofW HT_.out HW_.out KR) (fun _ _ _ h => h) (Or.inl ⟨by rfl, ?_⟩) hHeld ?_ ?_
                 rotate_left
                 ·rintro w' ⟨s0, s1, s2, s3, s4, s5, s6, s7, s8, s9, s10, s11, s12, s13, s14, s15, s16, s17⟩
                  go_simp
                  with_reducible rfl
                 rotate_left
                 ·simp only [Act.put, List.setIfInBounds_toArray, List.set_cons_zero, List.set_cons_succ, i64_w, i32_w]
                  rfl
                 refine one_ (i := 7) (N := some 90) b14_31 rfl rfl (one_of HT_.out KR) (by decide) (fun K hK => ?_)
                 refine goes_ Try.func112 KR rfl #[.agg #[.int .i64 ((rd_T40 x6_2 0).f0.f0), .int .i64 ((rd_T40 x6_2 0).f0.f1), .int .i64 ((rd_T40 x6_2 0).f0.f2), .int .i64 ((rd_T40 x6_2 0).f1), .int .i64 ((rd_T40 x6_2 0).f2.f0), .slice A501_5 ((rd_T40 x6_2 0).f2.f1).length c501_5, .int .i64 ((rd_T40 x6_2 0).f2.f2.f0), .int .i64 ((rd_T40 x6_2 0).f2.f2.f1), .int .i64 ((rd_T40 x6_2 0).f2.f2.f2)], .agg #[.int .i64 ((rd_T40 x6_2 x8_3).f0.f0), .int .i64 ((rd_T40 x6_2 x8_3).f0.f1), .int .i64 ((rd_T40 x6_2 x8_3).f0.f2), .int .i64 ((rd_T40 x6_2 x8_3).f1), .int .i64 ((rd_T40 x6_2 x8_3).f2.f0), .slice A502_5 ((rd_T40 x6_2 x8_3).f2.f1).length c502_5, .int .i64 ((rd_T40 x6_2 x8_3).f2.f2.f0), .int .i64 ((rd_T40 x6_2 x8_3).f2.f2.f1), .int .i64 ((rd_T40 x6_2 x8_3).f2.f2.f2)]] (by rfl) rfl rfl AR ?_
                 with_reducible refine (spec_l19Step.calls k3 ((rd_T40 x6_2 0).f0.f0) ((rd_T40 x6_2 0).f0.f1) ((rd_T40 x6_2 0).f0.f2) ((rd_T40 x6_2 0).f1) ((rd_T40 x6_2 0).f2.f0) _ _ ((rd_T40 x6_2 0).f2.f1) ((rd_T40 x6_2 0).f2.f2.f0) ((rd_T40 x6_2 0).f2.f2.f1) ((rd_T40 x6_2 0).f2.f2.f2) ((rd_T40 x6_2 x8_3).f0.f0) ((rd_T40 x6_2 x8_3).f0.f1) ((rd_T40 x6_2 x8_3).f0.f2) ((rd_T40 x6_2 x8_3).f1) ((rd_T40 x6_2 x8_3).f2.f0) _ _ ((rd_T40 x6_2 x8_3).f2.f1) ((rd_T40 x6_2 x8_3).f2.f2.f0) ((rd_T40 x6_2 x8_3).f2.f2.f1) ((rd_T40 x6_2 x8_3).f2.f2.f2) t503 t504 _ ?side1 ?side2 ?side3 ?side4 A70.out).mono ?_
                 (case side1 => repeat (first | exact (PC HR501_5) | (with_reducible refine Kd.C_alloc ?_ _) | (with_reducible refine Kd.C_drewN ?_ _) | (with_reducible refine Kd.C_drew ?_)))
                 (case side2 => exact HC501_5.out)
                 (case side3 => repeat (first | exact (PC HR502_5) | (with_reducible refine Kd.C_alloc ?_ _) | (with_reducible refine Kd.C_drewN ?_ _) | (with_reducible refine Kd.C_drew ?_)))
                 (case side4 => exact HC502_5.out)
                 rintro e w74 ⟨rfl, hb⟩
                 have HS0_ := hs_ hb hHeld.1; have HS1_ := hs_ hb hHeld.2.1; have HS2_ := hs_ hb hHeld.2.2.1; have HS3_ := hs_ hb hHeld.2.2.2.1; have HS4_ := hs_ hb hHeld.2.2.2.2.1; have HS5_ := hs_ hb hHeld.2.2.2.2.2.1; have HS6_ := hs_ hb hHeld.2.2.2.2.2.2.1; have HS7_ := hs_ hb hHeld.2.2.2.2.2.2.2.1; have HS8_ := hs_ hb hHeld.2.2.2.2.2.2.2.2.1; have HS9_ := hs_ hb hHeld.2.2.2.2.2.2.2.2.2.1; have HS10_ := hs_ hb hHeld.2.2.2.2.2.2.2.2.2.2.1; have HS11_ := hs_ hb hHeld.2.2.2.2.2.2.2.2.2.2.2.1; have HS12_ := hs_ hb hHeld.2.2.2.2.2.2.2.2.2.2.2.2.1; have HS13_ := hs_ hb hHeld.2.2.2.2.2.2.2.2.2.2.2.2.2.1; have HS14_ := hs_ hb hHeld.2.2.2.2.2.2.2.2.2.2.2.2.2.2.1; have HS15_ := hs_ hb hHeld.2.2.2.2.2.2.2.2.2.2.2.2.2.2.2.1; have HS16_ := hs_ hb hHeld.2.2.2.2.2.2.2.2.2.2.2.2.2.2.2.2.1; have HS17_ := hs_ hb hHeld.2.2.2.2.2.2.2.2.2.2.2.2.2.2.2.2.2; refine ⟨_, rfl, ?_⟩; replace HO_6 := Nb HO_6 hb; replace HL499_5 := Vb HL499_5 hb; replace HL500_5 := Vb HL500_5 hb; replace HL501_5 := Vb HL501_5 hb; replace HL502_5 := Vb HL502_5 hb; replace BK476 := kf BK476 hb; replace BK477 := kf BK477 hb; replace BK478 := kf BK478 hb; replace HR497_5 := Cb HR497_5 hb; replace HR499_5 := Cb HR499_5 hb; replace HR500_5 := Cb HR500_5 hb; replace HR501_5 := Cb HR501_5 hb; replace HR502_5 := Cb HR502_5 hb; replace HB := bs HB hb
                 (try clear hb); (try clear hb2); (try clear hk); (try clear hi)
                 refine hK.out _ _ ⟨HS0_, HS1_, HS2_, HS3_, HS4_, HS5_, HS6_, HS7_, HS8_, HS9_, HS10_, HS11_, HS12_, HS13_, HS14_, HS15_, HS16_, HS17_⟩ (fun hHeld => ?_)
                 clear hK K
                 refine norm_ (a' := ?_) ?_ ?_
                 rotate_left
                 ·show Act.put _ (some 90) _ = _
                  simp only [Act.put, List.setIfInBounds_toArray, List.set_cons_zero, List.set_cons_succ, i64_w, i32_w]
                  rfl
                 refine pu_ (i := 8) (N := some 82) b14_29 HT_ ?_
                 refine pu_ (i := 9) (N := some 91) b14_27 HT_ ?_
                 refine pu_ (i := 10) (N := some 92) b14_25 HT_ ?_
                 refine pu_ (i := 11) (N := some 9) b14_22 HT_ ?_
                 refine pu_ (i := 12) (N := some 10) b14_19 HT_ ?_
                 refine done_ (done_of HT_.out KR) ?_
                 have hnb75 := NB478_476.out; have hnc75 := NB476_478.out; have hnb76 := NB478_477.out; have hnc76 := NB477_478.out
                 obtain ⟨_, _, _, _, _, _, _, _⟩ := bc4 BK478
                 try go_wp2
                 go_meet
                 case rel => exact ⟨_, (t504), (t503), H', ⟨by have := HJ2.out; have := HK2.out; have := HK3.out; first | omega | exact Nat.le_refl _⟩, ⟨NX (Kd.N_mono HO_6.out (fun k_ hk => (⟨hk, hk.2.2.2⟩ : _ ∧ k_ ≠ gb478))) (fun _ hk => ⟨hk.1.1, ⟨hk.1.2.1, ⟨hk.1.2.2.1, hk.1.2.2.2⟩⟩⟩)⟩, ⟨PF BK476⟩, ⟨PF BK477⟩, ⟨PX BK478⟩, ⟨PB⟩⟩
                ·rw [if_neg c71] at H
                 have c71b0 : decide (0 ≤ t503) = false := decide_eq_false c71
                 clear c71
                 have H' := Aside0.mk H
                 clear H
                 try go_wp2
                 replace HO_6 := ak (Kd.N_drew HO_6.out); replace BK476 := ak (blk_drew BK476.out); replace BK477 := ak (blk_drew BK477.out); replace BK478 := ak (blk_drew BK478.out); replace HR497_5 := ak (Kd.C_drew HR497_5.out); replace HB := ak (below_drew1 HB.out)
                 have p499 : 0 ≤ (x8_3 : Int) := od14
                 have q499 : x8_3 < (x6_2.length : Int) := od14
                 obtain ⟨ad499, A499_5, c499_5, e499, hx499_0, hx499_1, hx499_2, hx499_3, hx499_4, hx499_5, hx499_6, hx499_7, hx499_8, hl499_5, hi499_5⟩ := at_T40 (Kd.N_reads' HO_6.out).2.2 x8_3 p499 q499
                 obtain rfl : ad497 = ad499 := (by injection e499)
                 obtain ⟨ce499, hce499, hMe499, hcc499⟩ := Kd.N_get HO_6.out z40 x8_3 p499 (by first | exact q499 | exact od14 | (have e_ := (Kd.N_reads' HO_6.out).1; omega))
                 obtain ⟨ua499_5, uc499_5, rfl, ul499_5, ge499_5⟩ := k40_openF hMe499
                 have hv499_5 := hcc499 5 _ rfl
                 rw [add_field _ _ 5 (by omega)] at hv499_5
                 replace hv499_5 := Option.some.inj (hv499_5.symm.trans hx499_5)
                 injection hv499_5 with hva_ hvn_ hvc_
                 rw [hva_] at ge499_5
                 rw [hvc_] at ul499_5
                 have HL499_5 := ak (show Kd.V (Kd.int .i64) 3 _ w.heap.size _ _ ((rd_T40 x6_2 x8_3).f2.f1) from Kd.V_mk ul499_5 ge499_5); clear hva_ hvn_ hvc_ ge499_5 ul499_5; clear hcc499 hce499; have HR499_5 := Aside0.mk hi499_5; have HC499_5 := Aside0.mk hl499_5; clear hi499_5 hl499_5; replace p499 := eq_true p499; replace q499 := eq_true q499
                 have p500 : 0 ≤ (0 : Int) := (by omega)
                 have q500 : 0 < (x6_2.length : Int) := od14
                 obtain ⟨ad500, A500_5, c500_5, e500, hx500_0, hx500_1, hx500_2, hx500_3, hx500_4, hx500_5, hx500_6, hx500_7, hx500_8, hl500_5, hi500_5⟩ := at_T40 (Kd.N_reads' HO_6.out).2.2 0 p500 q500
                 obtain rfl : ad497 = ad500 := (by injection e500)
                 obtain ⟨ce500, hce500, hMe500, hcc500⟩ := Kd.N_get HO_6.out z40 0 p500 (by first | exact q500 | exact od14 | (have e_ := (Kd.N_reads' HO_6.out).1; omega))
                 obtain ⟨ua500_5, uc500_5, rfl, ul500_5, ge500_5⟩ := k40_openF hMe500
                 have hv500_5 := hcc500 5 _ rfl
                 rw [add_field _ _ 5 (by omega)] at hv500_5
                 replace hv500_5 := Option.some.inj (hv500_5.symm.trans hx500_5)
                 injection hv500_5 with hva_ hvn_ hvc_
                 rw [hva_] at ge500_5
                 rw [hvc_] at ul500_5
                 have HL500_5 := ak (show Kd.V (Kd.int .i64) 3 _ w.heap.size _ _ ((rd_T40 x6_2 0).f2.f1) from Kd.V_mk ul500_5 ge500_5); clear hva_ hvn_ hvc_ ge500_5 ul500_5; clear hcc500 hce500
                 have qi500 : (0 < x6_2.length) = True := eq_true (by omega)
                 (try rw [tn14_0] at hx500_0)
                 (try rw [show 0 * 9 = 0 from rfl] at hx500_0)
                 (try rw [Addr.add_zero'] at hx500_0)
                 (try rw [tn14_0] at hx500_1)
                 (try rw [show 0 * 9 = 0 from rfl] at hx500_1)
                 (try rw [Addr.add_zero'] at hx500_1)
                 (try rw [tn14_0] at hx500_2)
                 (try rw [show 0 * 9 = 0 from rfl] at hx500_2)
                 (try rw [Addr.add_zero'] at hx500_2)
                 (try rw [tn14_0] at hx500_3)
                 (try rw [show 0 * 9 = 0 from rfl] at hx500_3)
                 (try rw [Addr.add_zero'] at hx500_3)
                 (try rw [tn14_0] at hx500_4)
                 (try rw [show 0 * 9 = 0 from rfl] at hx500_4)
                 (try rw [Addr.add_zero'] at hx500_4)
                 (try rw [tn14_0] at hx500_5)
                 (try rw [show 0 * 9 = 0 from rfl] at hx500_5)
                 (try rw [Addr.add_zero'] at hx500_5)
                 (try rw [tn14_0] at hx500_6)
                 (try rw [show 0 * 9 = 0 from rfl] at hx500_6)
                 (try rw [Addr.add_zero'] at hx500_6)
                 (try rw [tn14_0] at hx500_7)
                 (try rw [show 0 * 9 = 0 from rfl] at hx500_7)
                 (try rw [Addr.add_zero'] at hx500_7)
                 (try rw [tn14_0] at hx500_8)
                 (try rw [show 0 * 9 = 0 from rfl] at hx500_8)
                 (try rw [Addr.add_zero'] at hx500_8)
                 have HR500_5 := Aside0.mk hi500_5; have HC500_5 := Aside0.mk hl500_5; clear hi500_5 hl500_5; replace p500 := eq_true p500; replace q500 := eq_true q500
                 refine start_ (n := 10) (S := fun w' => w'.cell? (ad497.add ((x8_3).toNat * 9)) = some (.int .i64 ((rd_T40 x6_2 x8_3).f0.f0)) ∧ w'.cell? ⟨(ad497.add ((x8_3).toNat * 9)).block, (ad497.add ((x8_3).toNat * 9)).off + 1, none⟩ = some (.int .i64 ((rd_T40 x6_2 x8_3).f0.f1)) ∧ w'.cell? ⟨(ad497.add ((x8_3).toNat * 9)).block, (ad497.add ((x8_3).toNat * 9)).off + 2, none⟩ = some (.int .i64 ((rd_T40 x6_2 x8_3).f0.f2)) ∧ w'.cell? ⟨(ad497.add ((x8_3).toNat * 9)).block, (ad497.add ((x8_3).toNat * 9)).off + 3, none⟩ = some (.int .i64 ((rd_T40 x6_2 x8_3).f1)) ∧ w'.cell? ⟨(ad497.add ((x8_3).toNat * 9)).block, (ad497.add ((x8_3).toNat * 9)).off + 4, none⟩ = some (.int .i64 ((rd_T40 x6_2 x8_3).f2.f0)) ∧ w'.cell? ⟨(ad497.add ((x8_3).toNat * 9)).block, (ad497.add ((x8_3).toNat * 9)).off + 5, none⟩ = some (.slice A499_5 ((rd_T40 x6_2 x8_3).f2.f1).length c499_5) ∧ w'.cell? ⟨(ad497.add ((x8_3).toNat * 9)).block, (ad497.add ((x8_3).toNat * 9)).off + 6, none⟩ = some (.int .i64 ((rd_T40 x6_2 x8_3).f2.f2.f0)) ∧ w'.cell? ⟨(ad497.add ((x8_3).toNat * 9)).block, (ad497.add ((x8_3).toNat * 9)).off + 7, none⟩ = some (.int .i64 ((rd_T40 x6_2 x8_3).f2.f2.f1)) ∧ w'.cell? ⟨(ad497.add ((x8_3).toNat * 9)).block, (ad497.add ((x8_3).toNat * 9)).off + 8, none⟩ = some (.int .i64 ((rd_T40 x6_2 x8_3).f2.f2.f2)) ∧ w'.cell? ad497 = some (.int .i64 ((rd_T40 x6_2 0).f0.f0)) ∧ w'.cell? ⟨ad497.block, ad497.off + 1, none⟩ = some (.int .i64 ((rd_T40 x6_2 0).f0.f1)) ∧ w'.cell? ⟨ad497.block, ad497.off + 2, none⟩ = some (.int .i64 ((rd_T40 x6_2 0).f0.f2)) ∧ w'.cell? ⟨ad497.block, ad497.off + 3, none⟩ = some (.int .i64 ((rd_T40 x6_2 0).f1)) ∧ w'.cell? ⟨ad497.block, ad497.off + 4, none⟩ = some (.int .i64 ((rd_T40 x6_2 0).f2.f0)) ∧ w'.cell? ⟨ad497.block, ad497.off + 5, none⟩ = some (.slice A500_5 ((rd_T40 x6_2 0).f2.f1).length c500_5) ∧ w'.cell? ⟨ad497.block, ad497.off + 6, none⟩ = some (.int .i64 ((rd_T40 x6_2 0).f2.f2.f0)) ∧ w'.cell? ⟨ad497.block, ad497.off + 7, none⟩ = some (.int .i64 ((rd_T40 x6_2 0).f2.f2.f1)) ∧ w'.cell? ⟨ad497.block, ad497.off + 8, none⟩ = some (.int .i64 ((rd_T40 x6_2 0).f2.f2.f2))) (ds := []) b14_10 KR rfl rfl ⟨hx499_0, hx499_1, hx499_2, hx499_3, hx499_4, hx499_5, hx499_6, hx499_7, hx499_8, hx500_0, hx500_1, hx500_2, hx500_3, hx500_4, hx500_5, hx500_6, hx500_7, hx500_8⟩ (fun hHeld => ?_); refine with_tabW spec_LearnForm.tab18 spec_LearnForm.bits18 (fun HT_ HW_ => ?_)
                 generalize wr.drew = w78 at HO_6 BK476 BK477 BK478 HR497_5 HB HL499_5 HL500_5 HR499_5 HR500_5 hx499_0 hx499_1 hx499_2 hx499_3 hx499_4 hx499_5 hx499_6 hx499_7 hx499_8 hx500_0 hx500_1 hx500_2 hx500_3 hx500_4 hx500_5 hx500_6 hx500_7 hx500_8 hHeld ⊢
                 refine pu_ (i := 0) (N := some 72) b14_9 HT_ ?_
                 refine pu_ (i := 1) (N := some 73) b14_8 HT_ ?_
                 refine pu_ (i := 2) (N := some 74) b14_7 HT_ ?_
                 refine pu_ (i := 3) (N := some 75) b14_6 HT_ ?_
                 refine pu_ (i := 5) (N := some 77) b14_5 HT_ ?_
                 refine pu_ (i := 6) (N := some 78) b14_4 HT_ ?_
                 refine pu_ (i := 7) (N := some 79) b14_3 HT_ ?_
                 refine tk_ (i := 4) (N := some 76) b14_2 rfl rfl HT_ HW_ hHeld ?_
                 refine take_ (i := 8) (N := some 80) (v := ?_) (a' := ?_) b14_1 rfl rfl (take_ofW HT_.out HW_.out KR) (fun _ _ _ h => h) (Or.inl ⟨by rfl, ?_⟩) hHeld ?_ ?_
                 rotate_left
                 ·rintro w' ⟨s0, s1, s2, s3, s4, s5, s6, s7, s8, s9, s10, s11, s12, s13, s14, s15, s16, s17⟩
                  go_simp
                  with_reducible rfl
                 rotate_left
                 ·simp only [Act.put, List.setIfInBounds_toArray, List.set_cons_zero, List.set_cons_succ, i64_w, i32_w]
                  rfl
                 refine pu_ (i := 9) (N := some 81) b14_0 HT_ ?_
                 refine done_ (done_of HT_.out KR) ?_
                 try go_wp2
                 replace HO_6 := ak (Kd.N_drew HO_6.out); replace HL499_5 := ak (Kd.V_drew HL499_5.out); replace HL500_5 := ak (Kd.V_drew HL500_5.out); replace BK476 := ak (blk_drew BK476.out); replace BK477 := ak (blk_drew BK477.out); replace BK478 := ak (blk_drew BK478.out); replace HR497_5 := ak (Kd.C_drew HR497_5.out); replace HR499_5 := ak (Kd.C_drew HR499_5.out); replace HR500_5 := ak (Kd.C_drew HR500_5.out); replace HB := ak (below_drew1 HB.out)
                 have p501 : 0 ≤ (0 : Int) := (by omega)
                 have q501 : 0 < (x6_2.length : Int) := od14
                 obtain ⟨ad501, A501_5, c501_5, e501, hx501_0, hx501_1, hx501_2, hx501_3, hx501_4, hx501_5, hx501_6, hx501_7, hx501_8, hl501_5, hi501_5⟩ := at_T40 (Kd.N_reads' HO_6.out).2.2 0 p501 q501
                 obtain rfl : ad497 = ad501 := (by injection e501)
                 obtain ⟨ce501, hce501, hMe501, hcc501⟩ := Kd.N_get HO_6.out z40 0 p501 (by first | exact q501 | exact od14 | (have e_ := (Kd.N_reads' HO_6.out).1; omega))
                 obtain ⟨ua501_5, uc501_5, rfl, ul501_5, ge501_5⟩ := k40_openF hMe501
                 have hv501_5 := hcc501 5 _ rfl
                 rw [add_field _ _ 5 (by omega)] at hv501_5
                 replace hv501_5 := Option.some.inj (hv501_5.symm.trans hx501_5)
                 injection hv501_5 with hva_ hvn_ hvc_
                 rw [hva_] at ge501_5
                 rw [hvc_] at ul501_5
                 have HL501_5 := ak (show Kd.V (Kd.int .i64) 3 _ w.heap.size _ _ ((rd_T40 x6_2 0).f2.f1) from Kd.V_mk ul501_5 ge501_5); clear hva_ hvn_ hvc_ ge501_5 ul501_5; clear hcc501 hce501
                 have qi501 : (0 < x6_2.length) = True := eq_true (by omega)
                 (try rw [tn14_0] at hx501_0)
                 (try rw [show 0 * 9 = 0 from rfl] at hx501_0)
                 (try rw [Addr.add_zero'] at hx501_0)
                 (try rw [tn14_0] at hx501_1)
                 (try rw [show 0 * 9 = 0 from rfl] at hx501_1)
                 (try rw [Addr.add_zero'] at hx501_1)
                 (try rw [tn14_0] at hx501_2)
                 (try rw [show 0 * 9 = 0 from rfl] at hx501_2)
                 (try rw [Addr.add_zero'] at hx501_2)
                 (try rw [tn14_0] at hx501_3)
                 (try rw [show 0 * 9 = 0 from rfl] at hx501_3)
                 (try rw [Addr.add_zero'] at hx501_3)
                 (try rw [tn14_0] at hx501_4)
                 (try rw [show 0 * 9 = 0 from rfl] at hx501_4)
                 (try rw [Addr.add_zero'] at hx501_4)
                 (try rw [tn14_0] at hx501_5)
                 (try rw [show 0 * 9 = 0 from rfl] at hx501_5)
                 (try rw [Addr.add_zero'] at hx501_5)
                 (try rw [tn14_0] at hx501_6)
                 (try rw [show 0 * 9 = 0 from rfl] at hx501_6)
                 (try rw [Addr.add_zero'] at hx501_6)
                 (try rw [tn14_0] at hx501_7)
                 (try rw [show 0 * 9 = 0 from rfl] at hx501_7)
                 (try rw [Addr.add_zero'] at hx501_7)
                 (try rw [tn14_0] at hx501_8)
                 (try rw [show 0 * 9 = 0 from rfl] at hx501_8)
                 (try rw [Addr.add_zero'] at hx501_8)
                 have HR501_5 := Aside0.mk hi501_5; have HC501_5 := Aside0.mk hl501_5; clear hi501_5 hl501_5; replace p501 := eq_true p501; replace q501 := eq_true q501
                 have p502 : 0 ≤ (x8_3 : Int) := od14
                 have q502 : x8_3 < (x6_2.length : Int) := od14
                 obtain ⟨ad502, A502_5, c502_5, e502, hx502_0, hx502_1, hx502_2, hx502_3, hx502_4, hx502_5, hx502_6, hx502_7, hx502_8, hl502_5, hi502_5⟩ := at_T40 (Kd.N_reads' HO_6.out).2.2 x8_3 p502 q502
                 obtain rfl : ad497 = ad502 := (by injection e502)
                 obtain ⟨ce502, hce502, hMe502, hcc502⟩ := Kd.N_get HO_6.out z40 x8_3 p502 (by first | exact q502 | exact od14 | (have e_ := (Kd.N_reads' HO_6.out).1; omega))
                 obtain ⟨ua502_5, uc502_5, rfl, ul502_5, ge502_5⟩ := k40_openF hMe502
                 have hv502_5 := hcc502 5 _ rfl
                 rw [add_field _ _ 5 (by omega)] at hv502_5
                 replace hv502_5 := Option.some.inj (hv502_5.symm.trans hx502_5)
                 injection hv502_5 with hva_ hvn_ hvc_
                 rw [hva_] at ge502_5
                 rw [hvc_] at ul502_5
                 have HL502_5 := ak (show Kd.V (Kd.int .i64) 3 _ w.heap.size _ _ ((rd_T40 x6_2 x8_3).f2.f1) from Kd.V_mk ul502_5 ge502_5); clear hva_ hvn_ hvc_ ge502_5 ul502_5; clear hcc502 hce502; have HR502_5 := Aside0.mk hi502_5; have HC502_5 := Aside0.mk hl502_5; clear hi502_5 hl502_5; replace p502 := eq_true p502; replace q502 := eq_true q502
                 refine start_ (n := 13) (S := fun w' => w'.cell? ad497 = some (.int .i64 ((rd_T40 x6_2 0).f0.f0)) ∧ w'.cell? ⟨ad497.block, ad497.off + 1, none⟩ = some (.int .i64 ((rd_T40 x6_2 0).f0.f1)) ∧ w'.cell? ⟨ad497.block, ad497.off + 2, none⟩ = some (.int .i64 ((rd_T40 x6_2 0).f0.f2)) ∧ w'.cell? ⟨ad497.block, ad497.off + 3, none⟩ = some (.int .i64 ((rd_T40 x6_2 0).f1)) ∧ w'.cell? ⟨ad497.block, ad497.off + 4, none⟩ = some (.int .i64 ((rd_T40 x6_2 0).f2.f0)) ∧ w'.cell? ⟨ad497.block, ad497.off + 5, none⟩ = some (.slice A501_5 ((rd_T40 x6_2 0).f2.f1).length c501_5) ∧ w'.cell? ⟨ad497.block, ad497.off + 6, none⟩ = some (.int .i64 ((rd_T40 x6_2 0).f2.f2.f0)) ∧ w'.cell? ⟨ad497.block, ad497.off + 7, none⟩ = some (.int .i64 ((rd_T40 x6_2 0).f2.f2.f1)) ∧ w'.cell? ⟨ad497.block, ad497.off + 8, none⟩ = some (.int .i64 ((rd_T40 x6_2 0).f2.f2.f2)) ∧ w'.cell? (ad497.add ((x8_3).toNat * 9)) = some (.int .i64 ((rd_T40 x6_2 x8_3).f0.f0)) ∧ w'.cell? ⟨(ad497.add ((x8_3).toNat * 9)).block, (ad497.add ((x8_3).toNat * 9)).off + 1, none⟩ = some (.int .i64 ((rd_T40 x6_2 x8_3).f0.f1)) ∧ w'.cell? ⟨(ad497.add ((x8_3).toNat * 9)).block, (ad497.add ((x8_3).toNat * 9)).off + 2, none⟩ = some (.int .i64 ((rd_T40 x6_2 x8_3).f0.f2)) ∧ w'.cell? ⟨(ad497.add ((x8_3).toNat * 9)).block, (ad497.add ((x8_3).toNat * 9)).off + 3, none⟩ = some (.int .i64 ((rd_T40 x6_2 x8_3).f1)) ∧ w'.cell? ⟨(ad497.add ((x8_3).toNat * 9)).block, (ad497.add ((x8_3).toNat * 9)).off + 4, none⟩ = some (.int .i64 ((rd_T40 x6_2 x8_3).f2.f0)) ∧ w'.cell? ⟨(ad497.add ((x8_3).toNat * 9)).block, (ad497.add ((x8_3).toNat * 9)).off + 5, none⟩ = some (.slice A502_5 ((rd_T40 x6_2 x8_3).f2.f1).length c502_5) ∧ w'.cell? ⟨(ad497.add ((x8_3).toNat * 9)).block, (ad497.add ((x8_3).toNat * 9)).off + 6, none⟩ = some (.int .i64 ((rd_T40 x6_2 x8_3).f2.f2.f0)) ∧ w'.cell? ⟨(ad497.add ((x8_3).toNat * 9)).block, (ad497.add ((x8_3).toNat * 9)).off + 7, none⟩ = some (.int .i64 ((rd_T40 x6_2 x8_3).f2.f2.f1)) ∧ w'.cell? ⟨(ad497.add ((x8_3).toNat * 9)).block, (ad497.add ((x8_3).toNat * 9)).off + 8, none⟩ = some (.int .i64 ((rd_T40 x6_2 x8_3).f2.f2.f2))) (ds := []) b14_40 KR rfl rfl ⟨hx501_0, hx501_1, hx501_2, hx501_3, hx501_4, hx501_5, hx501_6, hx501_7, hx501_8, hx502_0, hx502_1, hx502_2, hx502_3, hx502_4, hx502_5, hx502_6, hx502_7, hx502_8⟩ (fun hHeld => ?_); refine with_tabW spec_LearnForm.tab19 spec_LearnForm.bits19 (fun HT_ HW_ => ?_)
                 generalize w78.drew = w79 at HO_6 HL499_5 HL500_5 BK476 BK477 BK478 HR497_5 HR499_5 HR500_5 HB HL501_5 HL502_5 HR501_5 HR502_5 hx501_0 hx501_1 hx501_2 hx501_3 hx501_4 hx501_5 hx501_6 hx501_7 hx501_8 hx502_0 hx502_1 hx502_2 hx502_3 hx502_4 hx502_5 hx502_6 hx502_7 hx502_8 hHeld ⊢
                 refine pu_ (i := 0) (N := some 83) b14_39 HT_ ?_
                 refine pu_ (i := 1) (N := some 84) b14_38 HT_ ?_
                 refine pu_ (i := 3) (N := some 86) b14_37 HT_ ?_
                 refine pu_ (i := 4) (N := some 87) b14_36 HT_ ?_
                 refine pu_ (i := 5) (N := some 88) b14_35 HT_ ?_
                 refine tk_ (i := 2) (N := some 85) b14_34 rfl rfl HT_ HW_ hHeld ?_
                 refine take_ (i := 6) (N := some 89) (v := ?_) (a' := ?_) b14_33 rfl rfl (take_ofW HT_.out HW_.out KR) (fun _ _ _ h => h) (Or.inl ⟨by rfl, ?_⟩) hHeld ?_ ?_
                 rotate_left
                 ·rintro w' ⟨s0, s1, s2, s3, s4, s5, s6, s7, s8, s9, s10, s11, s12, s13, s14, s15, s16, s17⟩
                  go_simp
                  with_reducible rfl
                 rotate_left
                 ·simp only [Act.put, List.setIfInBounds_toArray, List.set_cons_zero, List.set_cons_succ, i64_w, i32_w]
                  rfl
                 refine one_ (i := 7) (N := some 90) b14_31 rfl rfl (one_of HT_.out KR) (by decide) (fun K hK => ?_)
                 refine goes_ Try.func112 KR rfl #[.agg #[.int .i64 ((rd_T40 x6_2 0).f0.f0), .int .i64 ((rd_T40 x6_2 0).f0.f1), .int .i64 ((rd_T40 x6_2 0).f0.f2), .int .i64 ((rd_T40 x6_2 0).f1), .int .i64 ((rd_T40 x6_2 0).f2.f0), .slice A501_5 ((rd_T40 x6_2 0).f2.f1).length c501_5, .int .i64 ((rd_T40 x6_2 0).f2.f2.f0), .int .i64 ((rd_T40 x6_2 0).f2.f2.f1), .int .i64 ((rd_T40 x6_2 0).f2.f2.f2)], .agg #[.int .i64 ((rd_T40 x6_2 x8_3).f0.f0), .int .i64 ((rd_T40 x6_2 x8_3).f0.f1), .int .i64 ((rd_T40 x6_2 x8_3).f0.f2), .int .i64 ((rd_T40 x6_2 x8_3).f1), .int .i64 ((rd_T40 x6_2 x8_3).f2.f0), .slice A502_5 ((rd_T40 x6_2 x8_3).f2.f1).length c502_5, .int .i64 ((rd_T40 x6_2 x8_3).f2.f2.f0), .int .i64 ((rd_T40 x6_2 x8_3).f2.f2.f1), .int .i64 ((rd_T40 x6_2 x8_3).f2.f2.f2)]] (by rfl) rfl rfl AR ?_
                 with_reducible refine (spec_l19Step.calls k3 ((rd_T40 x6_2 0).f0.f0) ((rd_T40 x6_2 0).f0.f1) ((rd_T40 x6_2 0).f0.f2) ((rd_T40 x6_2 0).f1) ((rd_T40 x6_2 0).f2.f0) _ _ ((rd_T40 x6_2 0).f2.f1) ((rd_T40 x6_2 0).f2.f2.f0) ((rd_T40 x6_2 0).f2.f2.f1) ((rd_T40 x6_2 0).f2.f2.f2) ((rd_T40 x6_2 x8_3).f0.f0) ((rd_T40 x6_2 x8_3).f0.f1) ((rd_T40 x6_2 x8_3).f0.f2) ((rd_T40 x6_2 x8_3).f1) ((rd_T40 x6_2 x8_3).f2.f0) _ _ ((rd_T40 x6_2 x8_3).f2.f1) ((rd_T40 x6_2 x8_3).f2.f2.f0) ((rd_T40 x6_2 x8_3).f2.f2.f1) ((rd_T40 x6_2 x8_3).f2.f2.f2) t503 t504 _ ?side1 ?side2 ?side3 ?side4 A70.out).mono ?_
                 (case side1 => repeat (first | exact (PC HR501_5) | (with_reducible refine Kd.C_alloc ?_ _) | (with_reducible refine Kd.C_drewN ?_ _) | (with_reducible refine Kd.C_drew ?_)))
                 (case side2 => exact HC501_5.out)
                 (case side3 => repeat (first | exact (PC HR502_5) | (with_reducible refine Kd.C_alloc ?_ _) | (with_reducible refine Kd.C_drewN ?_ _) | (with_reducible refine Kd.C_drew ?_)))
                 (case side4 => exact HC502_5.out)
                 rintro e w80 ⟨rfl, hb⟩
                 have HS0_ := hs_ hb hHeld.1; have HS1_ := hs_ hb hHeld.2.1; have HS2_ := hs_ hb hHeld.2.2.1; have HS3_ := hs_ hb hHeld.2.2.2.1; have HS4_ := hs_ hb hHeld.2.2.2.2.1; have HS5_ := hs_ hb hHeld.2.2.2.2.2.1; have HS6_ := hs_ hb hHeld.2.2.2.2.2.2.1; have HS7_ := hs_ hb hHeld.2.2.2.2.2.2.2.1; have HS8_ := hs_ hb hHeld.2.2.2.2.2.2.2.2.1; have HS9_ := hs_ hb hHeld.2.2.2.2.2.2.2.2.2.1; have HS10_ := hs_ hb hHeld.2.2.2.2.2.2.2.2.2.2.1; have HS11_ := hs_ hb hHeld.2.2.2.2.2.2.2.2.2.2.2.1; have HS12_ := hs_ hb hHeld.2.2.2.2.2.2.2.2.2.2.2.2.1; have HS13_ := hs_ hb hHeld.2.2.2.2.2.2.2.2.2.2.2.2.2.1; have HS14_ := hs_ hb hHeld.2.2.2.2.2.2.2.2.2.2.2.2.2.2.1; have HS15_ := hs_ hb hHeld.2.2.2.2.2.2.2.2.2.2.2.2.2.2.2.1; have HS16_ := hs_ hb hHeld.2.2.2.2.2.2.2.2.2.2.2.2.2.2.2.2.1; have HS17_ := hs_ hb hHeld.2.2.2.2.2.2.2.2.2.2.2.2.2.2.2.2.2; refine ⟨_, rfl, ?_⟩; replace HO_6 := Nb HO_6 hb; replace HL499_5 := Vb HL499_5 hb; replace HL500_5 := Vb HL500_5 hb; replace HL501_5 := Vb HL501_5 hb; replace HL502_5 := Vb HL502_5 hb; replace BK476 := kf BK476 hb; replace BK477 := kf BK477 hb; replace BK478 := kf BK478 hb; replace HR497_5 := Cb HR497_5 hb; replace HR499_5 := Cb HR499_5 hb; replace HR500_5 := Cb HR500_5 hb; replace HR501_5 := Cb HR501_5 hb; replace HR502_5 := Cb HR502_5 hb; replace HB := bs HB hb
                 (try clear hb); (try clear hb2); (try clear hk); (try clear hi)
                 refine hK.out _ _ ⟨HS0_, HS1_, HS2_, HS3_, HS4_, HS5_, HS6_, HS7_, HS8_, HS9_, HS10_, HS11_, HS12_, HS13_, HS14_, HS15_, HS16_, HS17_⟩ (fun hHeld => ?_)
                 clear hK K
                 refine norm_ (a' := ?_) ?_ ?_
                 rotate_left
                 ·show Act.put _ (some 90) _ = _
                  simp only [Act.put, List.setIfInBounds_toArray, List.set_cons_zero, List.set_cons_succ, i64_w, i32_w]
                  rfl
                 refine pu_ (i := 8) (N := some 82) b14_29 HT_ ?_
                 refine pu_ (i := 9) (N := some 91) b14_27 HT_ ?_
                 refine pu_ (i := 10) (N := some 92) b14_25 HT_ ?_
                 refine pu_ (i := 11) (N := some 9) b14_22 HT_ ?_
                 refine pu_ (i := 12) (N := some 10) b14_19 HT_ ?_
                 refine done_ (done_of HT_.out KR) ?_
                 try go_wp2
                 go_meet
                 case rel => exact ⟨_, (x479000_3), (x479001_3), H', ⟨by have := HJ2.out; have := HK2.out; have := HK3.out; first | omega | exact Nat.le_refl _⟩, ⟨PN HO_6⟩, ⟨PK BK476⟩, ⟨PK BK477⟩, ⟨PK BK478⟩, ⟨PB⟩⟩
               ·rw [if_neg c69] at H
                have c69b0 : (!(((rd_T40 x6_2 x8_3).f0.f0) == ((rd_T40 x6_2 0).f0.f0)) || (!(((rd_T40 x6_2 x8_3).f0.f1) == ((rd_T40 x6_2 0).f0.f1)) || (!(((rd_T40 x6_2 x8_3).f0.f2) == ((rd_T40 x6_2 0).f0.f2))))) = false := by simpa using c69
                clear c69
                have H' := Aside0.mk H
                clear H
                try go_wp2
                replace HO_6 := ak (Kd.N_drew HO_6.out); replace BK476 := ak (blk_drew BK476.out); replace BK477 := ak (blk_drew BK477.out); replace BK478 := ak (blk_drew BK478.out); replace HR497_5 := ak (Kd.C_drew HR497_5.out); replace HB := ak (below_drew1 HB.out)
                have p499 : 0 ≤ (x8_3 : Int) := od14
                have q499 : x8_3 < (x6_2.length : Int) := od14
                obtain ⟨ad499, A499_5, c499_5, e499, hx499_0, hx499_1, hx499_2, hx499_3, hx499_4, hx499_5, hx499_6, hx499_7, hx499_8, hl499_5, hi499_5⟩ := at_T40 (Kd.N_reads' HO_6.out).2.2 x8_3 p499 q499
                obtain rfl : ad497 = ad499 := (by injection e499)
                obtain ⟨ce499, hce499, hMe499, hcc499⟩ := Kd.N_get HO_6.out z40 x8_3 p499 (by first | exact q499 | exact od14 | (have e_ := (Kd.N_reads' HO_6.out).1; omega))
                obtain ⟨ua499_5, uc499_5, rfl, ul499_5, ge499_5⟩ := k40_openF hMe499
                have hv499_5 := hcc499 5 _ rfl
                rw [add_field _ _ 5 (by omega)] at hv499_5
                replace hv499_5 := Option.some.inj (hv499_5.symm.trans hx499_5)
                injection hv499_5 with hva_ hvn_ hvc_
                rw [hva_] at ge499_5
                rw [hvc_] at ul499_5
                have HL499_5 := ak (show Kd.V (Kd.int .i64) 3 _ w.heap.size _ _ ((rd_T40 x6_2 x8_3).f2.f1) from Kd.V_mk ul499_5 ge499_5); clear hva_ hvn_ hvc_ ge499_5 ul499_5; clear hcc499 hce499; have HR499_5 := Aside0.mk hi499_5; have HC499_5 := Aside0.mk hl499_5; clear hi499_5 hl499_5; replace p499 := eq_true p499; replace q499 := eq_true q499
                have p500 : 0 ≤ (0 : Int) := (by omega)
                have q500 : 0 < (x6_2.length : Int) := od14
                obtain ⟨ad500, A500_5, c500_5, e500, hx500_0, hx500_1, hx500_2, hx500_3, hx500_4, hx500_5, hx500_6, hx500_7, hx500_8, hl500_5, hi500_5⟩ := at_T40 (Kd.N_reads' HO_6.out).2.2 0 p500 q500
                obtain rfl : ad497 = ad500 := (by injection e500)
                obtain ⟨ce500, hce500, hMe500, hcc500⟩ := Kd.N_get HO_6.out z40 0 p500 (by first | exact q500 | exact od14 | (have e_ := (Kd.N_reads' HO_6.out).1; omega))
                obtain ⟨ua500_5, uc500_5, rfl, ul500_5, ge500_5⟩ := k40_openF hMe500
                have hv500_5 := hcc500 5 _ rfl
                rw [add_field _ _ 5 (by omega)] at hv500_5
                replace hv500_5 := Option.some.inj (hv500_5.symm.trans hx500_5)
                injection hv500_5 with hva_ hvn_ hvc_
                rw [hva_] at ge500_5
                rw [hvc_] at ul500_5
                have HL500_5 := ak (show Kd.V (Kd.int .i64) 3 _ w.heap.size _ _ ((rd_T40 x6_2 0).f2.f1) from Kd.V_mk ul500_5 ge500_5); clear hva_ hvn_ hvc_ ge500_5 ul500_5; clear hcc500 hce500
                have qi500 : (0 < x6_2.length) = True := eq_true (by omega)
                (try rw [tn14_0] at hx500_0)
                (try rw [show 0 * 9 = 0 from rfl] at hx500_0)
                (try rw [Addr.add_zero'] at hx500_0)
                (try rw [tn14_0] at hx500_1)
                (try rw [show 0 * 9 = 0 from rfl] at hx500_1)
                (try rw [Addr.add_zero'] at hx500_1)
                (try rw [tn14_0] at hx500_2)
                (try rw [show 0 * 9 = 0 from rfl] at hx500_2)
                (try rw [Addr.add_zero'] at hx500_2)
                (try rw [tn14_0] at hx500_3)
                (try rw [show 0 * 9 = 0 from rfl] at hx500_3)
                (try rw [Addr.add_zero'] at hx500_3)
                (try rw [tn14_0] at hx500_4)
                (try rw [show 0 * 9 = 0 from rfl] at hx500_4)
                (try rw [Addr.add_zero'] at hx500_4)
                (try rw [tn14_0] at hx500_5)
                (try rw [show 0 * 9 = 0 from rfl] at hx500_5)
                (try rw [Addr.add_zero'] at hx500_5)
                (try rw [tn14_0] at hx500_6)
                (try rw [show 0 * 9 = 0 from rfl] at hx500_6)
                (try rw [Addr.add_zero'] at hx500_6)
                (try rw [tn14_0] at hx500_7)
                (try rw [show 0 * 9 = 0 from rfl] at hx500_7)
                (try rw [Addr.add_zero'] at hx500_7)
                (try rw [tn14_0] at hx500_8)
                (try rw [show 0 * 9 = 0 from rfl] at hx500_8)
                (try rw [Addr.add_zero'] at hx500_8)
                have HR500_5 := Aside0.mk hi500_5; have HC500_5 := Aside0.mk hl500_5; clear hi500_5 hl500_5; replace p500 := eq_true p500; replace q500 := eq_true q500
                refine start_ (n := 10) (S := fun w' => w'.cell? (ad497.add ((x8_3).toNat * 9)) = some (.int .i64 ((rd_T40 x6_2 x8_3).f0.f0)) ∧ w'.cell? ⟨(ad497.add ((x8_3).toNat * 9)).block, (ad497.add ((x8_3).toNat * 9)).off + 1, none⟩ = some (.int .i64 ((rd_T40 x6_2 x8_3).f0.f1)) ∧ w'.cell? ⟨(ad497.add ((x8_3).toNat * 9)).block, (ad497.add ((x8_3).toNat * 9)).off + 2, none⟩ = some (.int .i64 ((rd_T40 x6_2 x8_3).f0.f2)) ∧ w'.cell? ⟨(ad497.add ((x8_3).toNat * 9)).block, (ad497.add ((x8_3).toNat * 9)).off + 3, none⟩ = some (.int .i64 ((rd_T40 x6_2 x8_3).f1)) ∧ w'.cell? ⟨(ad497.add ((x8_3).toNat * 9)).block, (ad497.add ((x8_3).toNat * 9)).off + 4, none⟩ = some (.int .i64 ((rd_T40 x6_2 x8_3).f2.f0)) ∧ w'.cell? ⟨(ad497.add ((x8_3).toNat * 9)).block, (ad497.add ((x8_3).toNat * 9)).off + 5, none⟩ = some (.slice A499_5 ((rd_T40 x6_2 x8_3).f2.f1).length c499_5) ∧ w'.cell? ⟨(ad497.add ((x8_3).toNat * 9)).block, (ad497.add ((x8_3).toNat * 9)).off + 6, none⟩ = some (.int .i64 ((rd_T40 x6_2 x8_3).f2.f2.f0)) ∧ w'.cell? ⟨(ad497.add ((x8_3).toNat * 9)).block, (ad497.add ((x8_3).toNat * 9)).off + 7, none⟩ = some (.int .i64 ((rd_T40 x6_2 x8_3).f2.f2.f1)) ∧ w'.cell? ⟨(ad497.add ((x8_3).toNat * 9)).block, (ad497.add ((x8_3).toNat * 9)).off + 8, none⟩ = some (.int .i64 ((rd_T40 x6_2 x8_3).f2.f2.f2)) ∧ w'.cell? ad497 = some (.int .i64 ((rd_T40 x6_2 0).f0.f0)) ∧ w'.cell? ⟨ad497.block, ad497.off + 1, none⟩ = some (.int .i64 ((rd_T40 x6_2 0).f0.f1)) ∧ w'.cell? ⟨ad497.block, ad497.off + 2, none⟩ = some (.int .i64 ((rd_T40 x6_2 0).f0.f2)) ∧ w'.cell? ⟨ad497.block, ad497.off + 3, none⟩ = some (.int .i64 ((rd_T40 x6_2 0).f1)) ∧ w'.cell? ⟨ad497.block, ad497.off + 4, none⟩ = some (.int .i64 ((rd_T40 x6_2 0).f2.f0)) ∧ w'.cell? ⟨ad497.block, ad497.off + 5, none⟩ = some (.slice A500_5 ((rd_T40 x6_2 0).f2.f1).length c500_5) ∧ w'.cell? ⟨ad497.block, ad497.off + 6, none⟩ = some (.int .i64 ((rd_T40 x6_2 0).f2.f2.f0)) ∧ w'.cell? ⟨ad497.block, ad497.off + 7, none⟩ = some (.int .i64 ((rd_T40 x6_2 0).f2.f2.f1)) ∧ w'.cell? ⟨ad497.block, ad497.off + 8, none⟩ = some (.int .i64 ((rd_T40 x6_2 0).f2.f2.f2))) (ds := []) b14_10 KR rfl rfl ⟨hx499_0, hx499_1, hx499_2, hx499_3, hx499_4, hx499_5, hx499_6, hx499_7, hx499_8, hx500_0, hx500_1, hx500_2, hx500_3, hx500_4, hx500_5, hx500_6, hx500_7, hx500_8⟩ (fun hHeld => ?_); refine with_tabW spec_LearnForm.tab18 spec_LearnForm.bits18 (fun HT_ HW_ => ?_)
                generalize wr.drew = w81 at HO_6 BK476 BK477 BK478 HR497_5 HB HL499_5 HL500_5 HR499_5 HR500_5 hx499_0 hx499_1 hx499_2 hx499_3 hx499_4 hx499_5 hx499_6 hx499_7 hx499_8 hx500_0 hx500_1 hx500_2 hx500_3 hx500_4 hx500_5 hx500_6 hx500_7 hx500_8 hHeld ⊢
                refine pu_ (i := 0) (N := some 72) b14_9 HT_ ?_
                refine pu_ (i := 1) (N := some 73) b14_8 HT_ ?_
                refine pu_ (i := 2) (N := some 74) b14_7 HT_ ?_
                refine pu_ (i := 3) (N := some 75) b14_6 HT_ ?_
                refine pu_ (i := 5) (N := some 77) b14_5 HT_ ?_
                refine pu_ (i := 6) (N := some 78) b14_4 HT_ ?_
                refine pu_ (i := 7) (N := some 79) b14_3 HT_ ?_
                refine tk_ (i := 4) (N := some 76) b14_2 rfl rfl HT_ HW_ hHeld ?_
                refine take_ (i := 8) (N := some 80) (v := ?_) (a' := ?_) b14_1 rfl rfl (take_ofW HT_.out HW_.out KR) (fun _ _ _ h => h) (Or.inl ⟨by rfl, ?_⟩) hHeld ?_ ?_
                rotate_left
                ·rintro w' ⟨s0, s1, s2, s3, s4, s5, s6, s7, s8, s9, s10, s11, s12, s13, s14, s15, s16, s17⟩
                 go_simp
                 with_reducible rfl
                rotate_left
                ·simp only [Act.put, List.setIfInBounds_toArray, List.set_cons_zero, List.set_cons_succ, i64_w, i32_w]
                 rfl
                refine pu_ (i := 9) (N := some 81) b14_0 HT_ ?_
                refine done_ (done_of HT_.out KR) ?_
                try go_wp2
                go_roundg k3
                case measure => have := HJ2.out; have := HK2.out; have := HK3.out; omega
                case rel => exact ⟨(wrap64 (x8_3 + 1)), (x479000_3), (x479001_3), (by first | rfl | (simp; done) | (simp [*]; done)), H', ⟨by have := HJ2.out; have := HK2.out; have := HK3.out; omega⟩, ⟨PN HO_6⟩, ⟨PK BK476⟩, ⟨PK BK477⟩, ⟨PK BK478⟩, ⟨by repeat (first | (with_reducible exact HR497_5.out) | (with_reducible refine Kd.C_alloc ?_ _) | (with_reducible refine Kd.C_drewN ?_ _) | (with_reducible refine Kd.C_drew ?_) | exact HR497_5.out)⟩, ⟨PB⟩⟩
              ·rw [if_neg c68] at H
               exact absurd H (by simp)
             ·rw [if_neg c67] at H
              exact absurd H (by simp)
            ·rw [if_neg c66] at H
             have c66b0 : decide (x8_3 < (x6_2.length : Int)) = false := decide_eq_false c66
             clear c66
             (first | rw [c66b0] | (simp only [i64_w, i32_w]; rw [c66b0]) | skip)
             have H' := Aside0.mk H
             clear H
             go_wp2
             go_meet
             case rel => exact ⟨_, (x479000_3), (x479001_3), H', ⟨by have := HJ2.out; have := HK2.out; have := HK3.out; first | omega | exact Nat.le_refl _⟩, ⟨PN HO_6⟩, ⟨PK BK476⟩, ⟨PK BK477⟩, ⟨PK BK478⟩, ⟨PB⟩⟩
         case rest =>
          clear HC56
          (try clear c1); (try clear p2); (try clear c4); (try clear p4); (try clear q4); (try clear hx4); (try clear c5); (try clear p5); (try clear q5); (try clear hx5); (try clear qi5); (try clear c6); (try clear p6); (try clear c11); (try clear c49); (try clear p49); (try clear q49); (try clear hx49); (try clear c50); (try clear p50); (try clear q50); (try clear hx50); (try clear qi50); (try clear p64); (try clear c66); (try clear c66b0); (try clear c67); (try clear c68); (try clear c69); (try clear c69b0); (try clear hx499_0); (try clear hx499_1); (try clear hx499_2); (try clear hx499_3); (try clear hx499_4); (try clear hx499_5); (try clear hx499_6); (try clear hx499_7); (try clear hx499_8); (try clear hx500_0); (try clear hx500_1); (try clear hx500_2); (try clear hx500_3); (try clear hx500_4); (try clear hx500_5); (try clear hx500_6); (try clear hx500_7); (try clear hx500_8); (try clear hx501_0); (try clear hx501_1); (try clear hx501_2); (try clear hx501_3); (try clear hx501_4); (try clear hx501_5); (try clear hx501_6); (try clear hx501_7); (try clear hx501_8); (try clear hx502_0); (try clear hx502_1); (try clear hx502_2); (try clear hx502_3); (try clear hx502_4); (try clear hx502_5); (try clear hx502_6); (try clear hx502_7); (try clear hx502_8); (try clear p499); (try clear p500); (try clear p501); (try clear p502); (try clear q499); (try clear q500); (try clear q501); (try clear q502)
          obtain ⟨kq, x479000_55, x479001_55, HA, HJ55, HO_6, BK476, BK477, BK478, HB⟩ := hcut
          cases kq with
          | zero => exact absurd HA.out (by simp [spec_LearnForm.j3])
          | succ kj55 =>
           have H := HA.out; clear HA
           simp only [spec_LearnForm.j3] at H
           have H' := Aside0.mk H
           clear H
           go_wp2
           go_loopg [11] kj55 (fun kq v11 w' => ∃ (x11_4 : Int) (x479003_4 : Bool), v11 = .int .i64 x11_4 ∧ Aside0 (spec_LearnForm.l2 kq x6_2 x11_4 x479000_55 x479001_55 (x6_2.length : Int) x479003_4 = some (r1, r2, r3, r4)) ∧ Aside0 (kq ≤ kj55) ∧ Aside0 (Kd.N k40 40 w' w.heap.size (fun k_ => (P0_ k_ ∨ w.heap.size ≤ k_) ∧ k_ ≠ gb476 ∧ k_ ≠ gb477 ∧ k_ ≠ gb478) (.slice (some ad497) x6_2.length co57) x6_2) ∧ Aside0 (w'.heap[gb476]? = some (.cells #[.int .i64 a1_0, .int .i64 a1_1, .int .i64 a1_2] 26 (0, 0))) ∧ Aside0 (w'.heap[gb477]? = some (.cells #[.int .i64 0, .int .i64 0, .int .i64 0, .bool false] 85 (0, 0))) ∧ Aside0 (w'.heap[gb478]? = some (.cells #[.int .i64 x479000_55, .int .i64 x479001_55, .int .i64 (x6_2.length : Int), .bool x479003_4] 85 (0, 0))) ∧ Aside0 (Below w.heap.size w w'))
           case atStart => exact ⟨(0), (true), (by first | rfl | (simp; done) | (simp [*]; done)), H', ⟨Nat.le_refl _⟩, ⟨PN HO_6⟩, ⟨PK BK476⟩, ⟨PK BK477⟩, ⟨PK BK478⟩, ⟨PB⟩⟩
           case round =>
            clear H'
            (try clear c1); (try clear p2); (try clear c4); (try clear p4); (try clear q4); (try clear hx4); (try clear c5); (try clear p5); (try clear q5); (try clear hx5); (try clear qi5); (try clear c6); (try clear p6); (try clear c11); (try clear c49); (try clear p49); (try clear q49); (try clear hx49); (try clear c50); (try clear p50); (try clear q50); (try clear hx50); (try clear qi50); (try clear p64); (try clear c66); (try clear c66b0); (try clear c67); (try clear c68); (try clear c69); (try clear c69b0); (try clear hx499_0); (try clear hx499_1); (try clear hx499_2); (try clear hx499_3); (try clear hx499_4); (try clear hx499_5); (try clear hx499_6); (try clear hx499_7); (try clear hx499_8); (try clear hx500_0); (try clear hx500_1); (try clear hx500_2); (try clear hx500_3); (try clear hx500_4); (try clear hx500_5); (try clear hx500_6); (try clear hx500_7); (try clear hx500_8); (try clear hx501_0); (try clear hx501_1); (try clear hx501_2); (try clear hx501_3); (try clear hx501_4); (try clear hx501_5); (try clear hx501_6); (try clear hx501_7); (try clear hx501_8); (try clear hx502_0); (try clear hx502_1); (try clear hx502_2); (try clear hx502_3); (try clear hx502_4); (try clear hx502_5); (try clear hx502_6); (try clear hx502_7); (try clear hx502_8); (try clear p2); (try clear p4); (try clear p49); (try clear p499); (try clear p5); (try clear p50); (try clear p500); (try clear p501); (try clear p502); (try clear p6); (try clear p64); (try clear q4); (try clear q49); (try clear q499); (try clear q5); (try clear q50); (try clear q500); (try clear q501); (try clear q502)
            obtain ⟨x11_4, x479003_4, rfl, HA, HK4, HO_6, BK476, BK477, BK478, HB⟩ := hrel
            cases gk with
            | zero => exact absurd HA.out (by simp [spec_LearnForm.l2])
            | succ k4 =>
             have H := HA.out; clear HA
             simp only [spec_LearnForm.l2] at H
             by_cases c82 : x11_4 < (x6_2.length : Int)
             ·rw [if_pos c82] at H
              have c82b0 : decide (x11_4 < (x6_2.length : Int)) = true := decide_eq_true c82
              clear c82
              by_cases c83 : x479003_4 = true
              ·subst c83
               have H1 : (if 0 ≤ x11_4 then ((spec_FitsForm.f k4 x479000_55 x479001_55 (x6_2.length : Int) true ((rd_T40 x6_2 x11_4).f0.f0) ((rd_T40 x6_2 x11_4).f0.f1) ((rd_T40 x6_2 x11_4).f0.f2) ((rd_T40 x6_2 x11_4).f1) ((rd_T40 x6_2 x11_4).f2.f0) ((rd_T40 x6_2 x11_4).f2.f1) ((rd_T40 x6_2 x11_4).f2.f2.f0) ((rd_T40 x6_2 x11_4).f2.f2.f1) ((rd_T40 x6_2 x11_4).f2.f2.f2)).bind fun t506 => (spec_LearnForm.l2 k4 x6_2 (wrap64 (x11_4 + 1)) x479000_55 x479001_55 (x6_2.length : Int) t506)) else (none)) = some (r1, r2, r3, r4) := by rw [if_pos rfl] at H; exact H
               clear H; have H := H1; clear H1
               by_cases c84 : 0 ≤ x11_4
               ·rw [if_pos c84] at H
                have c84b0 : decide (0 ≤ x11_4) = true := decide_eq_true c84
                clear c84; replace H := Option.bind_eq_some_iff.mp H
                obtain ⟨t506, A850, H⟩ := H
                replace H : (spec_LearnForm.l2 k4 x6_2 (wrap64 (x11_4 + 1)) x479000_55 x479001_55 (x6_2.length : Int) t506) = some (r1, r2, r3, r4) := H
                have A85 := Aside0.mk A850; clear A850
                have H' := Aside0.mk H
                clear H
                try go_wp2
                replace HO_6 := ak (Kd.N_drew HO_6.out); replace BK476 := ak (blk_drew BK476.out); replace BK477 := ak (blk_drew BK477.out); replace BK478 := ak (blk_drew BK478.out); replace HB := ak (below_drew1 HB.out)
                have p505 : 0 ≤ (x11_4 : Int) := od14
                have q505 : x11_4 < (x6_2.length : Int) := od14
                obtain ⟨ad505, A505_5, c505_5, e505, hx505_0, hx505_1, hx505_2, hx505_3, hx505_4, hx505_5, hx505_6, hx505_7, hx505_8, hl505_5, hi505_5⟩ := at_T40 (Kd.N_reads' HO_6.out).2.2 x11_4 p505 q505
                obtain rfl : ad497 = ad505 := (by injection e505)
                obtain ⟨ce505, hce505, hMe505, hcc505⟩ := Kd.N_get HO_6.out z40 x11_4 p505 (by first | exact q505 | exact od14 | (have e_ := (Kd.N_reads' HO_6.out).1; omega))
                obtain ⟨ua505_5, uc505_5, rfl, ul505_5, ge505_5⟩ := k40_openF hMe505
                have hv505_5 := hcc505 5 _ rfl
                rw [add_field _ _ 5 (by omega)] at hv505_5
                replace hv505_5 := Option.some.inj (hv505_5.symm.trans hx505_5)
                injection hv505_5 with hva_ hvn_ hvc_
                rw [hva_] at ge505_5
                rw [hvc_] at ul505_5
                have HL505_5 := ak (show Kd.V (Kd.int .i64) 3 _ w.heap.size _ _ ((rd_T40 x6_2 x11_4).f2.f1) from Kd.V_mk ul505_5 ge505_5); clear hva_ hvn_ hvc_ ge505_5 ul505_5; clear hcc505 hce505; have HR505_5 := Aside0.mk hi505_5; have HC505_5 := Aside0.mk hl505_5; clear hi505_5 hl505_5; replace p505 := eq_true p505; replace q505 := eq_true q505
                refine start_ (n := 12) (S := fun w' => w'.cell? ⟨gb478, 0, none⟩ = some (.int .i64 x479000_55) ∧ w'.cell? ⟨gb478, 1, none⟩ = some (.int .i64 x479001_55) ∧ w'.cell? ⟨gb478, 2, none⟩ = some (.int .i64 (x6_2.length : Int)) ∧ w'.cell? ⟨gb478, 3, none⟩ = some (.bool true) ∧ w'.cell? (ad497.add ((x11_4).toNat * 9)) = some (.int .i64 ((rd_T40 x6_2 x11_4).f0.f0)) ∧ w'.cell? ⟨(ad497.add ((x11_4).toNat * 9)).block, (ad497.add ((x11_4).toNat * 9)).off + 1, none⟩ = some (.int .i64 ((rd_T40 x6_2 x11_4).f0.f1)) ∧ w'.cell? ⟨(ad497.add ((x11_4).toNat * 9)).block, (ad497.add ((x11_4).toNat * 9)).off + 2, none⟩ = some (.int .i64 ((rd_T40 x6_2 x11_4).f0.f2)) ∧ w'.cell? ⟨(ad497.add ((x11_4).toNat * 9)).block, (ad497.add ((x11_4).toNat * 9)).off + 3, none⟩ = some (.int .i64 ((rd_T40 x6_2 x11_4).f1)) ∧ w'.cell? ⟨(ad497.add ((x11_4).toNat * 9)).block, (ad497.add ((x11_4).toNat * 9)).off + 4, none⟩ = some (.int .i64 ((rd_T40 x6_2 x11_4).f2.f0)) ∧ w'.cell? ⟨(ad497.add ((x11_4).toNat * 9)).block, (ad497.add ((x11_4).toNat * 9)).off + 5, none⟩ = some (.slice A505_5 ((rd_T40 x6_2 x11_4).f2.f1).length c505_5) ∧ w'.cell? ⟨(ad497.add ((x11_4).toNat * 9)).block, (ad497.add ((x11_4).toNat * 9)).off + 6, none⟩ = some (.int .i64 ((rd_T40 x6_2 x11_4).f2.f2.f0)) ∧ w'.cell? ⟨(ad497.add ((x11_4).toNat * 9)).block, (ad497.add ((x11_4).toNat * 9)).off + 7, none⟩ = some (.int .i64 ((rd_T40 x6_2 x11_4).f2.f2.f1)) ∧ w'.cell? ⟨(ad497.add ((x11_4).toNat * 9)).block, (ad497.add ((x11_4).toNat * 9)).off + 8, none⟩ = some (.int .i64 ((rd_T40 x6_2 x11_4).f2.f2.f2))) (ds := [11]) b14_32 KR rfl rfl ⟨bq14 BK478 0, bq14 BK478 1, bq14 BK478 2, bq14 BK478 3, hx505_0, hx505_1, hx505_2, hx505_3, hx505_4, hx505_5, hx505_6, hx505_7, hx505_8⟩ (fun hHeld => ?_); refine with_tabW spec_LearnForm.tab26 spec_LearnForm.bits26 (fun HT_ HW_ => ?_)
                generalize wr.drew = w86 at HO_6 BK476 BK477 BK478 HB HL505_5 HR505_5 hx505_0 hx505_1 hx505_2 hx505_3 hx505_4 hx505_5 hx505_6 hx505_7 hx505_8 hHeld ⊢
                refine pu_ (i := 0) (N := some 105) b14_30 HT_ ?_
                refine tk_ (i := 1) (N := some 106) b14_28 rfl rfl HT_ HW_ hHeld ?_
                refine pu_ (i := 2) (N := some 107) b14_26 HT_ ?_
                refine pu_ (i := 4) (N := some 109) #[true, true, true, false, true, false, false, false, false, false, false, false] HT_ ?_
                refine pu_ (i := 5) (N := some 110) #[true, true, true, false, true, true, false, false, false, false, false, false] HT_ ?_
                refine pu_ (i := 6) (N := some 111) #[true, true, true, false, true, true, true, false, false, false, false, false] HT_ ?_
                refine tk_ (i := 3) (N := some 108) b14_16 rfl rfl HT_ HW_ hHeld ?_
                refine take_ (i := 7) (N := some 112) (v := ?_) (a' := ?_) b14_15 rfl rfl (take_ofW HT_.out HW_.out KR) (fun _ _ _ h => h) (Or.inl ⟨by rfl, ?_⟩) hHeld ?_ ?_
                rotate_left
                ·rintro w' ⟨s0, s1, s2, s3, s4, s5, s6, s7, s8, s9, s10, s11, s12⟩
                 go_simp
                 with_reducible rfl
                rotate_left
                ·simp only [Act.put, List.setIfInBounds_toArray, List.set_cons_zero, List.set_cons_succ, i64_w, i32_w]
                 rfl
                refine one_ (i := 8) (N := some 113) b14_14 rfl rfl (one_of HT_.out KR) (by decide) (fun K hK => ?_)
                refine goes_ Try.func113 KR rfl #[.agg #[.int .i64 x479000_55, .int .i64 x479001_55, .int .i64 (x6_2.length : Int), .bool true], .agg #[.int .i64 ((rd_T40 x6_2 x11_4).f0.f0), .int .i64 ((rd_T40 x6_2 x11_4).f0.f1), .int .i64 ((rd_T40 x6_2 x11_4).f0.f2), .int .i64 ((rd_T40 x6_2 x11_4).f1), .int .i64 ((rd_T40 x6_2 x11_4).f2.f0), .slice A505_5 ((rd_T40 x6_2 x11_4).f2.f1).length c505_5, .int .i64 ((rd_T40 x6_2 x11_4).f2.f2.f0), .int .i64 ((rd_T40 x6_2 x11_4).f2.f2.f1), .int .i64 ((rd_T40 x6_2 x11_4).f2.f2.f2)]] (by rfl) rfl rfl AR ?_
                with_reducible refine (spec_FitsForm.calls k4 x479000_55 x479001_55 (x6_2.length : Int) true ((rd_T40 x6_2 x11_4).f0.f0) ((rd_T40 x6_2 x11_4).f0.f1) ((rd_T40 x6_2 x11_4).f0.f2) ((rd_T40 x6_2 x11_4).f1) ((rd_T40 x6_2 x11_4).f2.f0) _ _ ((rd_T40 x6_2 x11_4).f2.f1) ((rd_T40 x6_2 x11_4).f2.f2.f0) ((rd_T40 x6_2 x11_4).f2.f2.f1) ((rd_T40 x6_2 x11_4).f2.f2.f2) t506 _ ?side1 ?side2 A85.out).mono ?_
                (case side1 => repeat (first | exact (PC HR505_5) | (with_reducible refine Kd.C_alloc ?_ _) | (with_reducible refine Kd.C_drewN ?_ _) | (with_reducible refine Kd.C_drew ?_)))
                (case side2 => exact HC505_5.out)
                rintro e w87 ⟨rfl, hb⟩
                have HS4_ := hs_ hb hHeld.2.2.2.2.1; have HS5_ := hs_ hb hHeld.2.2.2.2.2.1; have HS6_ := hs_ hb hHeld.2.2.2.2.2.2.1; have HS7_ := hs_ hb hHeld.2.2.2.2.2.2.2.1; have HS8_ := hs_ hb hHeld.2.2.2.2.2.2.2.2.1; have HS9_ := hs_ hb hHeld.2.2.2.2.2.2.2.2.2.1; have HS10_ := hs_ hb hHeld.2.2.2.2.2.2.2.2.2.2.1; have HS11_ := hs_ hb hHeld.2.2.2.2.2.2.2.2.2.2.2.1; have HS12_ := hs_ hb hHeld.2.2.2.2.2.2.2.2.2.2.2.2; refine ⟨_, rfl, ?_⟩; replace HO_6 := Nb HO_6 hb; replace HL505_5 := Vb HL505_5 hb; replace BK476 := kf BK476 hb; replace BK477 := kf BK477 hb; replace BK478 := kf BK478 hb; replace HR505_5 := Cb HR505_5 hb; replace HB := bs HB hb
                (try clear hb); (try clear hb2); (try clear hk); (try clear hi)
                refine hK.out _ _ ⟨bq14 BK478 0, bq14 BK478 1, bq14 BK478 2, bq14 BK478 3, HS4_, HS5_, HS6_, HS7_, HS8_, HS9_, HS10_, HS11_, HS12_⟩ (fun hHeld => ?_)
                clear hK K
                refine norm_ (a' := ?_) ?_ ?_
                rotate_left
                ·show Act.put _ (some 113) _ = _
                 simp only [Act.put, List.setIfInBounds_toArray, List.set_cons_zero, List.set_cons_succ, i64_w, i32_w]
                 rfl
                refine pu_ (i := 9) (N := some 114) b14_13 HT_ ?_
                refine pu_ (i := 10) (N := some 115) b14_12 HT_ ?_
                refine last_ (i := 11) (N := none) b14_11 rfl rfl (one_of HT_.out KR) (by decide) (fun K hK => ?_)
                have hs88 : w87.cell? ⟨gb478, 3, none⟩ = some (.bool true) := bq14 BK478 3
                have hfs88 := blk_frozen BK478.out 3; have hns88_0 := NB476_478.out; have hns88_1 := NB477_478.out; have hms88_0 := NB478_476.out; have hms88_1 := NB478_477.out
                refine skip_ (w1 := ?_) (by rfl) rfl ?_ ?_
                rotate_left
                ·go_simp
                 rfl
                refine hK.out _ _ ?_
                clear hK K
                refine done_ (done_of HT_.out KR) ?_
                try go_wp2
                go_roundg k4
                case measure => have := HJ2.out; have := HK2.out; have := HJ55.out; have := HK4.out; omega
                case rel => exact ⟨(wrap64 (x11_4 + 1)), (t506), (by first | rfl | (simp; done) | (simp [*]; done)), H', ⟨by have := HJ2.out; have := HK2.out; have := HJ55.out; have := HK4.out; omega⟩, ⟨NX (Kd.N_mono HO_6.out (fun k_ hk => (⟨hk, hk.2.2.2⟩ : _ ∧ k_ ≠ gb478))) (fun _ hk => ⟨hk.1.1, ⟨hk.1.2.1, ⟨hk.1.2.2.1, hk.1.2.2.2⟩⟩⟩)⟩, ⟨PF BK476⟩, ⟨PF BK477⟩, ⟨PX BK478⟩, ⟨PB⟩⟩
               ·rw [if_neg c84] at H
                exact absurd H (by simp)
              ·replace c83 := Bool.eq_false_iff.mpr c83
               subst c83
               have H1 : (spec_LearnForm.l2 k4 x6_2 (wrap64 (x11_4 + 1)) x479000_55 x479001_55 (x6_2.length : Int) false) = some (r1, r2, r3, r4) := by rw [if_neg (show ¬ (false = true) by decide)] at H; exact H
               clear H; have H := H1; clear H1
               have H' := Aside0.mk H
               clear H
               try go_wp2
               replace HO_6 := ak (Kd.N_drew HO_6.out); replace BK476 := ak (blk_drew BK476.out); replace BK477 := ak (blk_drew BK477.out); replace BK478 := ak (blk_drew BK478.out); replace HB := ak (below_drew1 HB.out)
               refine start_ (n := 12) (S := fun w' => w'.cell? ⟨gb478, 0, none⟩ = some (.int .i64 x479000_55) ∧ w'.cell? ⟨gb478, 1, none⟩ = some (.int .i64 x479001_55) ∧ w'.cell? ⟨gb478, 2, none⟩ = some (.int .i64 (x6_2.length : Int)) ∧ w'.cell? ⟨gb478, 3, none⟩ = some (.bool false)) (ds := [11]) b14_32 KR rfl rfl ⟨bq14 BK478 0, bq14 BK478 1, bq14 BK478 2, bq14 BK478 3⟩ (fun hHeld => ?_); refine with_tabW spec_LearnForm.tab26 spec_LearnForm.bits26 (fun HT_ HW_ => ?_)
               generalize wr.drew = w89 at HO_6 BK476 BK477 BK478 HB hHeld ⊢
               refine pu_ (i := 0) (N := some 105) b14_30 HT_ ?_
               refine tk_ (i := 1) (N := some 106) b14_28 rfl rfl HT_ HW_ hHeld ?_
               refine pu_ (i := 2) (N := some 107) b14_26 HT_ ?_
               refine un_ (i := 3) (N := some 108) #[true, true, true, true, false, false, false, false, false, false, false, false] HT_ ?_
               refine un_ (i := 4) (N := some 109) #[true, true, true, true, true, false, false, false, false, false, false, false] HT_ ?_
               refine un_ (i := 5) (N := some 110) #[true, true, true, true, true, true, false, false, false, false, false, false] HT_ ?_
               refine un_ (i := 6) (N := some 111) b14_16 HT_ ?_
               refine un_ (i := 7) (N := some 112) b14_15 HT_ ?_
               refine un_ (i := 8) (N := some 113) b14_14 HT_ ?_
               refine pu_ (i := 9) (N := some 114) b14_13 HT_ ?_
               refine pu_ (i := 10) (N := some 115) b14_12 HT_ ?_
               refine last_ (i := 11) (N := none) b14_11 rfl rfl (one_of HT_.out KR) (by decide) (fun K hK => ?_)
               have hs90 : w89.cell? ⟨gb478, 3, none⟩ = some (.bool false) := bq14 BK478 3
               have hfs90 := blk_frozen BK478.out 3; have hns90_0 := NB476_478.out; have hns90_1 := NB477_478.out; have hms90_0 := NB478_476.out; have hms90_1 := NB478_477.out
               refine skip_ (w1 := ?_) (by rfl) rfl ?_ ?_
               rotate_left
               ·go_simp
                rfl
               refine hK.out _ _ ?_
               clear hK K
               refine done_ (done_of HT_.out KR) ?_
               try go_wp2
               go_roundg k4
               case measure => have := HJ2.out; have := HK2.out; have := HJ55.out; have := HK4.out; omega
               case rel => exact ⟨(wrap64 (x11_4 + 1)), (false), (by first | rfl | (simp; done) | (simp [*]; done)), H', ⟨by have := HJ2.out; have := HK2.out; have := HJ55.out; have := HK4.out; omega⟩, ⟨NX (Kd.N_mono HO_6.out (fun k_ hk => (⟨hk, hk.2.2.2⟩ : _ ∧ k_ ≠ gb478))) (fun _ hk => ⟨hk.1.1, ⟨hk.1.2.1, ⟨hk.1.2.2.1, hk.1.2.2.2⟩⟩⟩)⟩, ⟨PF BK476⟩, ⟨PF BK477⟩, ⟨PX BK478⟩, ⟨PB⟩⟩
             ·rw [if_neg c82] at H
              have c82b0 : decide (x11_4 < (x6_2.length : Int)) = false := decide_eq_false c82
              clear c82
              simp only [Option.some.injEq, Prod.mk.injEq] at H
              obtain ⟨rfl, rfl, rfl, rfl⟩ := H
              have hnb91 := NB478_476.out; have hnc91 := NB476_478.out; have hnb92 := NB478_477.out; have hnc92 := NB477_478.out
              obtain ⟨_, _, _, _, _, _, _, _⟩ := bc4 BK478
              have hnb94 := NB477_476.out; have hnc94 := NB476_477.out
              obtain ⟨_, _, _, _, _, _, _, _⟩ := bc4 BK477
              go_wp2
              refine bodyPost_ret (results_cell_row rfl _ _ gb477 85 #[.int .i64 x479000_55, .int .i64 x479001_55, .int .i64 (x6_2.length : Int), .bool x479003_4] (0, 0) _ rfl (PX BK477) Try.underlying85 rfl KR) rfl ?_
              exact ⟨RT, PB⟩
        ·rw [if_neg c54] at H
         exact absurd H (by simp)

end Go.Proofs.Ytgcamebeonodeaa.MFnForms
