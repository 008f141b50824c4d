-- Written by a program of this session out of the translation's own print. Not trusted: Lean checks it.
import Derived.Test.YtgcamebeonodeaaShr2
import Derived.Test.YtgcamebeonodeaaMFnExactLearnFormx0
import Derived.Test.YtgcamebeonodeaaMFnExactLearnFormx1
import Derived.Test.YtgcamebeonodeaaMFnExactLearnFormx2
import Derived.Test.YtgcamebeonodeaaMFnExactLearnFormx3
import Derived.Test.YtgcamebeonodeaaMFnExactLearnFormx4
namespace Go.Proofs.Ytgcamebeonodeaa.MFnExactLearnForm
open Go.RowKit Go.Proofs.YtgcamebeonodeaaW.PrintWords Go.Proofs.YtgcamebeonodeaaW.PrintLast Go.Proofs.YtgcamebeonodeaaW.PrintMore
attribute [local go_sem] max2_int min2_int max_two min_two max_three min_three max_four min_four   -- for this text's walks alone
set_option linter.unusedVariables false
set_option linter.unusedSimpArgs false

attribute [local go_sem high] eqA26
abbrev b5_0 : Array Bool := #[true, true, true, true, true, true, true, true, true, true]
abbrev b5_1 : Array Bool := #[true, true, true, true, true, true, true, true, true, false]
abbrev b5_2 : Array Bool := #[true, true, true, true, true, true, true, true, false, false]
abbrev b5_3 : Array Bool := #[true, true, true, true, false, true, true, true, false, false]
abbrev b5_4 : Array Bool := #[true, true, true, true, false, true, true, false, false, false]
abbrev b5_5 : Array Bool := #[true, true, true, true, false, true, false, false, false, false]
abbrev b5_6 : Array Bool := #[true, true, true, true, false, false, false, false, false, false]
abbrev b5_7 : Array Bool := #[true, true, true, false, false, false, false, false, false, false]
abbrev b5_8 : Array Bool := #[true, true, false, false, false, false, false, false, false, false]
abbrev b5_9 : Array Bool := #[true, false, false, false, false, false, false, false, false, false]
abbrev b5_10 : Array Bool := #[false, false, false, false, false, false, false, false, false, false]
abbrev b5_11 : Array Bool := mkB 12 4095
abbrev b5_12 : Array Bool := mkB 12 2047
abbrev b5_13 : Array Bool := mkB 12 1023
abbrev b5_14 : Array Bool := mkB 12 511
abbrev b5_15 : Array Bool := mkB 12 255
abbrev b5_16 : Array Bool := mkB 12 127
abbrev b5_19 : Array Bool := mkB 13 8191
abbrev b5_22 : Array Bool := mkB 13 4095
abbrev b5_25 : Array Bool := mkB 13 2047
abbrev b5_26 : Array Bool := mkB 12 7
abbrev b5_27 : Array Bool := mkB 13 1023
abbrev b5_28 : Array Bool := mkB 12 3
abbrev b5_29 : Array Bool := mkB 13 511
abbrev b5_30 : Array Bool := mkB 12 1
abbrev b5_31 : Array Bool := mkB 13 255
abbrev b5_32 : Array Bool := #[false, false, false, false, false, false, false, false, false, false, false, false]
abbrev b5_33 : Array Bool := mkB 13 127
abbrev b5_34 : Array Bool := mkB 13 63
abbrev b5_35 : Array Bool := mkB 13 59
abbrev b5_36 : Array Bool := mkB 13 27
abbrev b5_37 : Array Bool := mkB 13 11
abbrev b5_38 : Array Bool := mkB 13 3
abbrev b5_39 : Array Bool := mkB 13 1
abbrev b5_40 : Array Bool := #[false, false, false, false, false, false, false, false, false, false, false, false, false]
abbrev b5_41 : Array Bool := mkB 16 65535
abbrev b5_42 : Array Bool := mkB 16 32767
abbrev b5_43 : Array Bool := mkB 16 16383
abbrev b5_44 : Array Bool := mkB 16 8191
abbrev b5_45 : Array Bool := mkB 16 4095
abbrev b5_46 : Array Bool := mkB 16 2047
abbrev b5_47 : Array Bool := mkB 16 1023
abbrev b5_48 : Array Bool := mkB 16 511
abbrev b5_49 : Array Bool := mkB 16 255
abbrev b5_50 : Array Bool := mkB 16 127
abbrev b5_51 : Array Bool := mkB 16 95
abbrev b5_52 : Array Bool := mkB 16 31
abbrev b5_53 : Array Bool := mkB 16 15
abbrev b5_54 : Array Bool := mkB 16 7
abbrev b5_55 : Array Bool := mkB 16 3
abbrev b5_56 : Array Bool := mkB 16 1
abbrev b5_57 : Array Bool := #[false, false, false, false, false, false, false, false, false, false, false, false, false, false, false, false]
/-! ### spec_LearnForm: function 48 -/
mutual
def spec_LearnForm.j0 : Nat → List (S40) → Bool → Int → Int → Int → Int → Int → Int → Bool → Option (Int × Int × Int × Bool)
  | 0, _, _, _, _, _, _, _, _, _ => none
  | k + 1, x0, x20, x145000, x145001, x145002, x147000, x147001, x147002, x147003 => if x20 = true then (some (x147000, x147001, x147002, x147003)) else (spec_LearnForm.l0 k x0 (([] : List (S40))) 0 x145000 x145001 x145002 x147000 x147001 x147002 x147003)
def spec_LearnForm.l0 : Nat → List (S40) → List (S40) → Int → Int → Int → Int → Int → Int → Int → Bool → Option (Int × Int × Int × Bool)
  | 0, _, _, _, _, _, _, _, _, _, _ => none
  | k + 1, x0, x6, x7, x145000, x145001, x145002, x147000, x147001, x147002, x147003 => if x7 < (x0.length : Int) then (if 0 ≤ x7 then ((spec_WithoutQuery.f ((rd_T40 x0 x7).f0.f0) ((rd_T40 x0 x7).f0.f1) ((rd_T40 x0 x7).f0.f2)).bind fun bt153 => ((spec_WithoutQuery.f x145000 x145001 x145002).bind fun bt156 => (if (bt153.1 == bt156.1 && (bt153.2.1 == bt156.2.1 && (bt153.2.2 == bt156.2.2))) = true then ((spec_l19Kind.f k ((rd_T40 x0 x7).f0.f0) ((rd_T40 x0 x7).f0.f1) ((rd_T40 x0 x7).f0.f2) ((rd_T40 x0 x7).f1) ((rd_T40 x0 x7).f2.f0) ((rd_T40 x0 x7).f2.f1) ((rd_T40 x0 x7).f2.f2.f0) ((rd_T40 x0 x7).f2.f2.f1) ((rd_T40 x0 x7).f2.f2.f2)).bind fun t160 => (if t160 = true then (if x6.length < 1599289640401 then (spec_LearnForm.l0 k x0 (x6 ++ [(⟨(⟨(rd_T40 x0 x7).f0.f0, (rd_T40 x0 x7).f0.f1, (rd_T40 x0 x7).f0.f2⟩ : S26), (rd_T40 x0 x7).f1, (⟨(rd_T40 x0 x7).f2.f0, (rd_T40 x0 x7).f2.f1, (⟨(rd_T40 x0 x7).f2.f2.f0, (rd_T40 x0 x7).f2.f2.f1, (rd_T40 x0 x7).f2.f2.f2⟩ : S26)⟩ : S38)⟩ : S40)]) (wrap64 (x7 + 1)) x145000 x145001 x145002 x147000 x147001 x147002 x147003) else (none)) else (spec_LearnForm.l0 k x0 x6 (wrap64 (x7 + 1)) x145000 x145001 x145002 x147000 x147001 x147002 x147003))) else (spec_LearnForm.l0 k x0 x6 (wrap64 (x7 + 1)) x145000 x145001 x145002 x147000 x147001 x147002 x147003)))) else (none)) else (if (x6.length : Int) = 0 then (some (x147000, x147001, (x6.length : Int), true)) else (if 0 < (x6.length : Int) then ((spec_ValueOfResource.f k ((rd_T40 x6 0).f2.f0) ((rd_T40 x6 0).f2.f1) ((rd_T40 x6 0).f2.f2.f0) ((rd_T40 x6 0).f2.f2.f1) ((rd_T40 x6 0).f2.f2.f2)).bind fun t166 => (spec_LearnForm.l1 k x6 1 t166 x147001 (x6.length : Int) true)) else (none)))
def spec_LearnForm.j3 : Nat → List (S40) → Int → Int → Int → Bool → Option (Int × Int × Int × Bool)
  | 0, _, _, _, _, _ => none
  | k + 1, x6, x147000, x147001, x147002, x147003 => spec_LearnForm.l2 k x6 0 x147000 x147001 x147002 x147003
def spec_LearnForm.l2 : Nat → List (S40) → Int → Int → Int → Int → Bool → Option (Int × Int × Int × Bool)
  | 0, _, _, _, _, _, _ => none
  | k + 1, x6, x11, x147000, x147001, x147002, x147003 => if x11 < (x6.length : Int) then (if x147003 = true then (if 0 ≤ x11 then ((spec_FitsForm.f k x147000 x147001 x147002 x147003 ((rd_T40 x6 x11).f0.f0) ((rd_T40 x6 x11).f0.f1) ((rd_T40 x6 x11).f0.f2) ((rd_T40 x6 x11).f1) ((rd_T40 x6 x11).f2.f0) ((rd_T40 x6 x11).f2.f1) ((rd_T40 x6 x11).f2.f2.f0) ((rd_T40 x6 x11).f2.f2.f1) ((rd_T40 x6 x11).f2.f2.f2)).bind fun t174 => (spec_LearnForm.l2 k x6 (wrap64 (x11 + 1)) x147000 x147001 x147002 t174)) else (none)) else (spec_LearnForm.l2 k x6 (wrap64 (x11 + 1)) x147000 x147001 x147002 false)) else (some (x147000, x147001, x147002, x147003))
def spec_LearnForm.l1 : Nat → List (S40) → Int → Int → Int → Int → Bool → Option (Int × Int × Int × Bool)
  | 0, _, _, _, _, _, _ => none
  | k + 1, x6, x8, x147000, x147001, x147002, x147003 => if x8 < (x6.length : Int) then (if 0 ≤ x8 then (if 0 < (x6.length : Int) then (if (!(((rd_T40 x6 x8).f0.f0) == ((rd_T40 x6 0).f0.f0)) || (!(((rd_T40 x6 x8).f0.f1) == ((rd_T40 x6 0).f0.f1)) || (!(((rd_T40 x6 x8).f0.f2) == ((rd_T40 x6 0).f0.f2))))) = true then ((spec_l19Step.f k ((rd_T40 x6 0).f0.f0) ((rd_T40 x6 0).f0.f1) ((rd_T40 x6 0).f0.f2) ((rd_T40 x6 0).f1) ((rd_T40 x6 0).f2.f0) ((rd_T40 x6 0).f2.f1) ((rd_T40 x6 0).f2.f2.f0) ((rd_T40 x6 0).f2.f2.f1) ((rd_T40 x6 0).f2.f2.f2) ((rd_T40 x6 x8).f0.f0) ((rd_T40 x6 x8).f0.f1) ((rd_T40 x6 x8).f0.f2) ((rd_T40 x6 x8).f1) ((rd_T40 x6 x8).f2.f0) ((rd_T40 x6 x8).f2.f1) ((rd_T40 x6 x8).f2.f2.f0) ((rd_T40 x6 x8).f2.f2.f1) ((rd_T40 x6 x8).f2.f2.f2)).bind fun bt171 => (if bt171.1 ≥ 0 then (spec_LearnForm.j3 k x6 bt171.2 bt171.1 x147002 x147003) else (spec_LearnForm.j3 k x6 x147000 x147001 x147002 x147003))) else (spec_LearnForm.l1 k x6 (wrap64 (x8 + 1)) x147000 x147001 x147002 x147003)) else (none)) else (none)) else (spec_LearnForm.j3 k x6 x147000 x147001 x147002 x147003)
end
def spec_LearnForm.f (k : Nat) (l0 : List (S40)) (a1_0 : Int) (a1_1 : Int) (a1_2 : Int) : Option (Int × Int × Int × Bool) := (spec_AreCaptures.f k l0).bind fun t147 => (if t147 = true then ((spec_IsAddress.f a1_0 a1_1 a1_2).bind fun t148 => (spec_LearnForm.j0 k l0 (!t148) a1_0 a1_1 a1_2 0 0 0 false)) else (spec_LearnForm.j0 k l0 true a1_0 a1_1 a1_2 0 0 0 false))
def spec_LearnForm.T8 : Bool × List (List Nat × List Nat) := (true, [([], []), ([], []), ([0, 1], [0, 1]), ([2], [2]), ([3], [3]), ([4], [4]), ([], []), ([6, 5], [6]), ([5, 7], [5, 7]), ([8, 7], [8]), ([9], [9]), ([9], [9]), ([10, 11, 9], [9, 10, 11]), ([12, 9], [9, 12]), ([13, 9, 9], [9, 13]), ([9, 14], [9, 14])])
def spec_LearnForm.B8 : List Nat := [0, 0, 3, 7, 15, 31, 0, 127, 255, 511, 1023, 1023, 4095, 8191, 16383, 32767]
theorem spec_LearnForm.tab8 : rtab .any (opsOf Try.f48 8) = spec_LearnForm.T8 := by kernel_rfl
theorem spec_LearnForm.bits8 : waitsOk spec_LearnForm.T8.2 spec_LearnForm.B8 = true := by kernel_rfl
def spec_LearnForm.T18 : Bool × List (List Nat × List Nat) := (true, [([], []), ([], []), ([0, 1], [0, 1]), ([2], [2]), ([3], [3]), ([], []), ([5], [5]), ([6], [6]), ([7], [7]), ([4, 8], [4, 8])])
def spec_LearnForm.B18 : List Nat := [0, 0, 3, 7, 15, 0, 32, 96, 224, 511]
theorem spec_LearnForm.tab18 : rtab .any (opsOf Try.f48 18) = spec_LearnForm.T18 := by kernel_rfl
theorem spec_LearnForm.bits18 : waitsOk spec_LearnForm.T18.2 spec_LearnForm.B18 = true := by kernel_rfl
def spec_LearnForm.T19 : Bool × List (List Nat × List Nat) := (true, [([], []), ([0], [0]), ([1], [1]), ([], []), ([], []), ([3, 4], [3, 4]), ([5], [5]), ([2, 6], [2, 6]), ([7], [7]), ([8], [8]), ([8], [8]), ([9, 7, 0, 1, 2, 3, 4, 5, 6, 7, 8, 9], [9]), ([10, 11, 0, 1, 2, 3, 4, 5, 6, 7, 8, 9, 10, 11], [10])])
def spec_LearnForm.B19 : List Nat := [0, 1, 3, 0, 0, 24, 56, 127, 255, 511, 511, 1023, 4095]
theorem spec_LearnForm.tab19 : rtab .any (opsOf Try.f48 19) = spec_LearnForm.T19 := by kernel_rfl
theorem spec_LearnForm.bits19 : waitsOk spec_LearnForm.T19.2 spec_LearnForm.B19 = true := by kernel_rfl
def spec_LearnForm.T26 : Bool × List (List Nat × List Nat) := (true, [([], []), ([0], [0]), ([1], [1]), ([2], [2]), ([2], [2]), ([2], [2]), ([4, 5, 2], [2, 4, 5]), ([6, 2], [2, 6]), ([3, 7, 2, 2], [2, 3, 7]), ([2, 8], [2, 8]), ([0, 1, 2, 3, 4, 5, 6, 7, 8, 9], []), ([10, 9, 8, 0, 1, 2, 3, 4, 5, 6, 7, 8, 9], [9, 10])])
def spec_LearnForm.B26 : List Nat := [0, 1, 3, 7, 7, 7, 55, 119, 255, 511, 1023, 2047]
theorem spec_LearnForm.tab26 : rtab .any (opsOf Try.f48 26) = spec_LearnForm.T26 := by kernel_rfl
theorem spec_LearnForm.bits26 : waitsOk spec_LearnForm.T26.2 spec_LearnForm.B26 = true := by kernel_rfl
set_option maxHeartbeats 8000000 in
set_option maxRecDepth 100000 in
theorem spec_LearnForm.calls (k : Nat) (P0_ : Nat → Prop) (A0 : Option Addr) (c0 : Nat) (l0 : List (S40)) (a1_0 : Int) (a1_1 : Int) (a1_2 : Int) (r1 : Int) (r2 : Int) (r3 : Int) (r4 : Bool) (w : World) (hs0 : Kd.V k40 40 w w.heap.size (fun k_ => P0_ k_) (.slice A0 l0.length c0) l0) (h : spec_LearnForm.f k l0 a1_0 a1_1 a1_2 = some (r1, r2, r3, r4)) :
  Calls Try.prog 48 #[.slice A0 l0.length c0, .agg #[.int .i64 a1_0, .int .i64 a1_1, .int .i64 a1_2]] w fun e w' => e = .returned (.agg #[.int .i64 r1, .int .i64 r2, .int .i64 r3, .bool r4]) ∧ Below w.heap.size w w' := by
 have hu26 := Try.underlying26
 have hu85 := Try.underlying85
 have hu40 := Try.underlying40
 have hu38 := Try.underlying38
 have HO0 := ak (show Kd.V k40 40 w w.heap.size (fun k_ => (P0_ k_ ∨ w.heap.size ≤ k_)) (.slice A0 l0.length c0) l0 from Kd.V_mono hs0 (fun k_ hk => .inl hk))
 have HB := ak (Below.refl w.heap.size w)
 have H : ((spec_AreCaptures.f k l0).bind fun t147 => (if t147 = true then ((spec_IsAddress.f a1_0 a1_1 a1_2).bind fun t148 => (spec_LearnForm.j0 k l0 (!t148) a1_0 a1_1 a1_2 0 0 0 false)) else (spec_LearnForm.j0 k l0 true a1_0 a1_1 a1_2 0 0 0 false))) = some (r1, r2, r3, r4) := h
 clear h
 have HC3 := Aside0.mk H
 clear H
 go_enter Try.func48, Try.ntmps48
 go_upto_region 2 with (first | ((with_reducible refine gate_dst (N := 3) rfl ?_); refine bx_ (N := 3) #[.int .i64 a1_0, .int .i64 a1_1, .int .i64 a1_2] 26 ?_; intro gb144 hg w4 hbox hb; replace HO0 := ak (Kd.V_below (Kd.V_elderB (PV HO0) gb144 (Nat.le_of_eq hg.symm)) hb); have BK144 := ak hbox; have GW144 := gy hg HB; have GE144 := gy hg HB; replace HB := bs HB hb; clear hb hbox hg) | ((with_reducible refine gate_dst (N := 4) rfl ?_); refine bx_ (N := 4) #[.int .i64 0, .int .i64 0, .int .i64 0, .bool false] 85 ?_; intro gb145 hg w5 hbox hb; replace HO0 := ak (Kd.V_below (Kd.V_elderB (PV HO0) gb145 (Nat.le_of_eq hg.symm)) hb); have BK145 := ak hbox; have GW145 := gy hg HB; have GE145 := gy hg HB; replace HB := bs HB hb; have NB144_145 := gm hg BK144; have NB145_144 := gn hg BK144; replace BK144 := kf BK144 hb; clear hb hbox hg) | ((with_reducible refine gate_dst (N := 5) rfl ?_); refine bx_ (N := 5) #[.int .i64 0, .int .i64 0, .int .i64 0, .bool false] 85 ?_; intro gb146 hg w6 hbox hb; replace HO0 := ak (Kd.V_below (Kd.V_elderB (PV HO0) gb146 (Nat.le_of_eq hg.symm)) hb); have BK146 := ak hbox; have GW146 := gy hg HB; have GE146 := gy hg HB; replace HB := bs HB hb; have NB144_146 := gm hg BK144; have NB146_144 := gn hg BK144; replace BK144 := kf BK144 hb; have NB145_146 := gm hg BK145; have NB146_145 := gn hg BK145; replace BK145 := kf BK145 hb; clear hb hbox hg; have hnb7 := NB146_144.out; have hnc7 := NB144_146.out; have hnb8 := NB146_145.out; have hnc8 := NB145_146.out; obtain ⟨hcz9_0, hcz9_1, hcz9_2, hcz9_3, hfz9_0, hfz9_1, hfz9_2, hfz9_3⟩ := bc4 BK146))
 (try simp only [Act.put, List.setIfInBounds_toArray, List.set_cons_zero, List.set_cons_succ])
 go_cut [20] (fun v20 wc => ∃ (kq : Nat) (x20_2 : Bool), v20 = .bool x20_2 ∧ Aside0 (spec_LearnForm.j0 kq l0 x20_2 a1_0 a1_1 a1_2 0 0 0 false = some (r1, r2, r3, r4)) ∧ Aside0 (kq ≤ k) ∧ Aside0 (Kd.V k40 40 wc w.heap.size (fun k_ => (P0_ k_ ∨ w.heap.size ≤ k_) ∧ k_ ≠ gb144 ∧ k_ ≠ gb145 ∧ k_ ≠ gb146) (.slice A0 l0.length c0) l0) ∧ Aside0 (wc.heap[gb144]? = some (.cells #[.int .i64 a1_0, .int .i64 a1_1, .int .i64 a1_2] 26 (0, 0))) ∧ Aside0 (wc.heap[gb145]? = some (.cells #[.int .i64 0, .int .i64 0, .int .i64 0, .bool false] 85 (0, 0))) ∧ Aside0 (wc.heap[gb146]? = some (.cells #[.int .i64 0, .int .i64 0, .int .i64 0, .bool false] 85 (0, 0))) ∧ Aside0 (Below w.heap.size w wc))
 case first =>
  have H := HC3.out
  clear HC3
  replace H := Option.bind_eq_some_iff.mp H
  obtain ⟨t147, A100, H⟩ := H
  replace H : (if t147 = true then ((spec_IsAddress.f a1_0 a1_1 a1_2).bind fun t148 => (spec_LearnForm.j0 k l0 (!t148) a1_0 a1_1 a1_2 0 0 0 false)) else (spec_LearnForm.j0 k l0 true a1_0 a1_1 a1_2 0 0 0 false)) = some (r1, r2, r3, r4) := H
  have A10 := Aside0.mk A100
  clear A100
  by_cases c11 : t147 = true
  ·subst c11
   have H1 : ((spec_IsAddress.f a1_0 a1_1 a1_2).bind fun t148 => (spec_LearnForm.j0 k l0 (!t148) a1_0 a1_1 a1_2 0 0 0 false)) = some (r1, r2, r3, r4) := by rw [if_pos rfl] at H; exact H
   clear H
   have H := H1
   clear H1
   replace H := Option.bind_eq_some_iff.mp H
   obtain ⟨t148, A120, H⟩ := H
   replace H : (spec_LearnForm.j0 k l0 (!t148) a1_0 a1_1 a1_2 0 0 0 false) = some (r1, r2, r3, r4) := H
   have A12 := Aside0.mk A120
   clear A120
   have H' := Aside0.mk H
   clear H
   go_wp2_with (first | ((with_reducible refine gate_callee (f := 55) rfl ?_); refine goesL_ (some 14) rfl rfl Try.func55 KR rfl #[.slice A0 l0.length c0] rfl AR ?_; (with_reducible refine (spec_AreCaptures.calls k _ _ l0 true _ ?side1 ?side2 A10.out).mono ?_); (case side1 => exact (Kd.V_reads' (VX (Kd.V_mono HO0.out (fun k_ hk => (⟨hk, hk.2⟩ : _ ∧ k_ ≠ gb146))) (fun _ h_ => h_.1))).2.2); (case side2 => exact (Kd.V_reads' HO0.out).2.1); rintro e w13 ⟨rfl, hb⟩; refine ⟨_, rfl, ?_⟩; replace HO0 := ak (Kd.V_below (VX (Kd.V_mono HO0.out (fun k_ hk => (⟨hk, hk.2⟩ : _ ∧ k_ ≠ gb146))) (fun _ h_ => h_.1)) hb); replace BK144 := kf BK144 hb; replace BK145 := kf BK145 hb; replace BK146 := kp (cs' := #[.int .i64 0, .int .i64 0, .int .i64 0, .bool false]) BK146 hb; replace HB := bs HB hb; (try clear hb); (try clear hb2); (try clear hk); (try clear hi); have hnb14 := NB144_145.out; have hnc14 := NB145_144.out; have hnb15 := NB144_146.out; have hnc15 := NB146_144.out; obtain ⟨hcz16_0, hcz16_1, hcz16_2, hfz16_0, hfz16_1, hfz16_2⟩ := bc3 BK144) | (go_at_call 108; (with_reducible refine (spec_IsAddress.calls a1_0 a1_1 a1_2 t148 _ A12.out).mono ?_); rintro e w17 ⟨rfl, hb⟩; replace HO0 := Vb HO0 hb; replace BK144 := kf BK144 hb; replace BK145 := kf BK145 hb; replace BK146 := kf BK146 hb; replace HB := bs HB hb; (try clear hb); (try clear hb2); (try clear hk); (try clear hi)))
   go_meet
   case rel => exact ⟨_, (!t148), (by first | rfl | (simp; done) | (simp [*]; done)), H', ⟨by first | omega | exact Nat.le_refl _⟩, ⟨VX HO0.out (fun _ hk => ⟨hk.1.1.1, ⟨hk.1.1.2, ⟨hk.1.2, hk.2⟩⟩⟩)⟩, ⟨PK BK144⟩, ⟨PK BK145⟩, ⟨PK BK146⟩, ⟨PB⟩⟩
  ·replace c11 := Bool.eq_false_iff.mpr c11
   subst c11
   have H1 : (spec_LearnForm.j0 k l0 true a1_0 a1_1 a1_2 0 0 0 false) = some (r1, r2, r3, r4) := by rw [if_neg (show ¬ (false = true) by decide)] at H; exact H
   clear H
   have H := H1
   clear H1
   have H' := Aside0.mk H
   clear H
   go_wp2_with (first | ((with_reducible refine gate_callee (f := 55) rfl ?_); refine goesL_ (some 14) rfl rfl Try.func55 KR rfl #[.slice A0 l0.length c0] rfl AR ?_; (with_reducible refine (spec_AreCaptures.calls k _ _ l0 false _ ?side1 ?side2 A10.out).mono ?_); (case side1 => exact (Kd.V_reads' (VX (Kd.V_mono HO0.out (fun k_ hk => (⟨hk, hk.2⟩ : _ ∧ k_ ≠ gb146))) (fun _ h_ => h_.1))).2.2); (case side2 => exact (Kd.V_reads' HO0.out).2.1); rintro e w18 ⟨rfl, hb⟩; refine ⟨_, rfl, ?_⟩; replace HO0 := ak (Kd.V_below (VX (Kd.V_mono HO0.out (fun k_ hk => (⟨hk, hk.2⟩ : _ ∧ k_ ≠ gb146))) (fun _ h_ => h_.1)) hb); replace BK144 := kf BK144 hb; replace BK145 := kf BK145 hb; replace BK146 := kp (cs' := #[.int .i64 0, .int .i64 0, .int .i64 0, .bool false]) BK146 hb; replace HB := bs HB hb; (try clear hb); (try clear hb2); (try clear hk); (try clear hi)))
   go_meet
   case rel => exact ⟨_, (true), (by first | rfl | (simp; done) | (simp [*]; done)), H', ⟨by first | omega | exact Nat.le_refl _⟩, ⟨VX HO0.out (fun _ hk => ⟨hk.1.1.1, ⟨hk.1.1.2, ⟨hk.1.2, hk.2⟩⟩⟩)⟩, ⟨PK BK144⟩, ⟨PK BK145⟩, ⟨PK BK146⟩, ⟨PB⟩⟩
 case rest =>
  clear HC3
  (try clear c1); (try clear p2); (try clear c4); (try clear c5); (try clear c7); (try clear c8); (try clear c11); (try clear c14); (try clear c15); (try clear hcz16_0); (try clear hcz16_1); (try clear hcz16_2); (try clear hcz9_0); (try clear hcz9_1); (try clear hcz9_2); (try clear hcz9_3); (try clear hfz16_0); (try clear hfz16_1); (try clear hfz16_2); (try clear hfz9_0); (try clear hfz9_1); (try clear hfz9_2); (try clear hfz9_3)
  obtain ⟨kq, x20_2, rfl, HA, HJ2, HO_0, BK144, BK145, BK146, HB⟩ := hcut
  cases kq with
  | zero => exact absurd HA.out (by simp [spec_LearnForm.j0])
  | succ kj2 =>
   have H := HA.out
   clear HA
   simp only [spec_LearnForm.j0] at H
   by_cases c19 : x20_2 = true
   ·subst c19
    have H1 : (some (0, 0, 0, false)) = some (r1, r2, r3, r4) := by rw [if_pos rfl] at H; exact H
    clear H
    have H := H1
    clear H1
    simp only [Option.some.injEq, Prod.mk.injEq] at H
    obtain ⟨rfl, rfl, rfl, rfl⟩ := H
    have hnb20 := NB146_144.out
    have hnc20 := NB144_146.out
    have hnb21 := NB146_145.out
    have hnc21 := NB145_146.out
    obtain ⟨hcz22_0, hcz22_1, hcz22_2, hcz22_3, hfz22_0, hfz22_1, hfz22_2, hfz22_3⟩ := bc4 BK146
    have hnb23 := NB145_144.out
    have hnc23 := NB144_145.out
    obtain ⟨hcz24_0, hcz24_1, hcz24_2, hcz24_3, hfz24_0, hfz24_1, hfz24_2, hfz24_3⟩ := bc4 BK145
    go_wp2
    refine bodyPost_ret (results_cell_row rfl _ _ gb145 85 #[.int .i64 0, .int .i64 0, .int .i64 0, .bool false] (0, 0) _ rfl (PX BK145) Try.underlying85 rfl KR) rfl ?_
    exact ⟨RT, PB⟩
   ·replace c19 := Bool.eq_false_iff.mpr c19
    subst c19
    have H1 : (spec_LearnForm.l0 kj2 l0 (([] : List (S40))) 0 a1_0 a1_1 a1_2 0 0 0 false) = some (r1, r2, r3, r4) := by rw [if_neg (show ¬ (false = true) by decide)] at H; exact H
    clear H
    have H := H1
    clear H1
    obtain ⟨y149, hy149⟩ : ∃ y_ : List (S40), y_ = (([] : List (S40))) := ⟨_, rfl⟩
    replace H : (spec_LearnForm.l0 kj2 l0 y149 0 a1_0 a1_1 a1_2 0 0 0 false) = some (r1, r2, r3, r4) := by first | (rw [hy149]; with_reducible exact H) | (have H2_ := (Option.bind_some _ _).symm.trans H; rw [hy149]; with_reducible exact H2_) | (have H2_ := (Option.bind_some _ _).symm.trans H; with_reducible exact H2_) | with_reducible exact H | (rw [hy149]; exact H) | exact H
    have Ny149 := Aside0.mk hy149
    clear hy149
    have H' := Aside0.mk H
    clear H
    go_wp2_with (first | ((with_reducible refine gate_dst (N := 22) rfl ?_); refine Kd.N_lit k40 _ 40 ?hg (N' := 22) ?hd (xs := ([] : List (S40))) (inner := []) (ok := (fun k_ => (P0_ k_ ∨ w.heap.size ≤ k_) ∧ k_ ≠ gb144 ∧ k_ ≠ gb145 ∧ k_ ≠ gb146)) (okp := (fun k_ => (P0_ k_ ∨ w.heap.size ≤ k_) ∧ k_ ≠ gb144 ∧ k_ ≠ gb145 ∧ k_ ≠ gb146)) ?hr ?hp (fun _ hk => hk) ((show ∀ k_, wc.heap.size ≤ k_ → (fun k_ => (P0_ k_ ∨ w.heap.size ≤ k_) ∧ k_ ≠ gb144 ∧ k_ ≠ gb145 ∧ k_ ≠ gb146) k_ from fun k_ hk => ⟨(.inr (Nat.le_trans (below_size PB) hk)), Kd.freshB (g := gb144) (o := .cells #[.int .i64 a1_0, .int .i64 a1_1, .int .i64 a1_2] 26 (0, 0)) (PK BK144) k_ hk, Kd.freshB (g := gb145) (o := .cells #[.int .i64 0, .int .i64 0, .int .i64 0, .bool false] 85 (0, 0)) (PK BK145) k_ hk, Kd.freshB (g := gb146) (o := .cells #[.int .i64 0, .int .i64 0, .int .i64 0, .bool false] 85 (0, 0)) (PK BK146) k_ hk⟩) _ (Nat.le_refl _)) (Below.refl _ _) (Nat.le_refl _) (by simp) ?_; (case hd => rfl); (case hg => rfl); (case hr => first | (go_simp; done) | (go_simp; rfl)); (case hp => exact (Reps.none _ _)); intro v150 w25 ho26 hb hg_ hnew_; clear hg_ hnew_; (first | rw [← Ny149.out] at ho26 | (simp only [Int.reduceToNat] at ho26; rw [← Ny149.out] at ho26)); replace HO_0 := ak (Kd.V_elder' (PV HO_0) (Kd.N_base ho26) hb); have HO151 := ak (Kd.N_lower ho26 (below_size PB)); replace BK144 := kf BK144 hb; replace BK145 := kf BK145 hb; replace BK146 := kf BK146 hb; replace HB := bs HB hb; clear hb ho26))
    go_loopg [6, 7] kj2 (fun kq v6 v7 w' => ∃ (x6_2 : List (S40)) (x7_2 : Int), v7 = .int .i64 x7_2 ∧ Aside0 (spec_LearnForm.l0 kq l0 x6_2 x7_2 a1_0 a1_1 a1_2 0 0 0 false = some (r1, r2, r3, r4)) ∧ Aside0 (kq ≤ kj2) ∧ Aside0 (Kd.V k40 40 w' w.heap.size (fun k_ => (P0_ k_ ∨ w.heap.size ≤ k_) ∧ some k_ ≠ (v6 : Value).ownBlock ∧ k_ ≠ gb144 ∧ k_ ≠ gb145 ∧ k_ ≠ gb146) (.slice A0 l0.length c0) l0) ∧ Aside0 (Kd.N k40 40 w' w.heap.size (fun k_ => (P0_ k_ ∨ w.heap.size ≤ k_) ∧ k_ ≠ gb144 ∧ k_ ≠ gb145 ∧ k_ ≠ gb146) v6 x6_2) ∧ Aside0 (w'.heap[gb144]? = some (.cells #[.int .i64 a1_0, .int .i64 a1_1, .int .i64 a1_2] 26 (0, 0))) ∧ Aside0 (w'.heap[gb145]? = some (.cells #[.int .i64 0, .int .i64 0, .int .i64 0, .bool false] 85 (0, 0))) ∧ Aside0 (w'.heap[gb146]? = some (.cells #[.int .i64 0, .int .i64 0, .int .i64 0, .bool false] 85 (0, 0))) ∧ Aside0 (Below w.heap.size w w'))
    case atStart => exact ⟨(y149), (0), (by first | rfl | (simp; done) | (simp [*]; done)), H', ⟨Nat.le_refl _⟩, ⟨VX HO_0.out (fun _ hk => ⟨hk.1.1, ⟨hk.2, ⟨hk.1.2.1, ⟨hk.1.2.2.1, hk.1.2.2.2⟩⟩⟩⟩)⟩, ⟨PN HO151⟩, ⟨PK BK144⟩, ⟨PK BK145⟩, ⟨PK BK146⟩, ⟨PB⟩⟩
    case round =>
     clear H'
     (try clear c1); (try clear c2); (try clear p2); (try clear c4); (try clear c5); (try clear c7); (try clear c8); (try clear c11); (try clear c14); (try clear c15); (try clear c19); (try clear c20); (try clear c21); (try clear c23); (try clear hcz16_0); (try clear hcz16_1); (try clear hcz16_2); (try clear hcz22_0); (try clear hcz22_1); (try clear hcz22_2); (try clear hcz22_3); (try clear hcz24_0); (try clear hcz24_1); (try clear hcz24_2); (try clear hcz24_3); (try clear hcz9_0); (try clear hcz9_1); (try clear hcz9_2); (try clear hcz9_3); (try clear hfz16_0); (try clear hfz16_1); (try clear hfz16_2); (try clear hfz22_0); (try clear hfz22_1); (try clear hfz22_2); (try clear hfz22_3); (try clear hfz24_0); (try clear hfz24_1); (try clear hfz24_2); (try clear hfz24_3); (try clear hfz9_0); (try clear hfz9_1); (try clear hfz9_2); (try clear hfz9_3); (try clear p2)
     obtain ⟨x6_2, x7_2, rfl, HA, HK2, HO_0, HO_6, BK144, BK145, BK146, HB⟩ := hrel
     cases gk with
     | zero => exact absurd HA.out (by simp [spec_LearnForm.l0])
     | succ k2 =>
      have H := HA.out
      clear HA
      simp only [spec_LearnForm.l0] at H
      by_cases c27 : x7_2 < (l0.length : Int)
      ·rw [if_pos c27] at H
       have c27b0 : decide (x7_2 < (l0.length : Int)) = true := decide_eq_true c27
       clear c27
       by_cases c28 : 0 ≤ x7_2
       ·rw [if_pos c28] at H
        have c28b0 : decide (0 ≤ x7_2) = true := decide_eq_true c28
        clear c28
        replace H := Option.bind_eq_some_iff.mp H
        obtain ⟨⟨t153, t154, t155⟩, A290, H⟩ := H
        replace H : ((spec_WithoutQuery.f a1_0 a1_1 a1_2).bind fun bt156 => (if (t153 == bt156.1 && (t154 == bt156.2.1 && (t155 == bt156.2.2))) = true then ((spec_l19Kind.f k2 ((rd_T40 l0 x7_2).f0.f0) ((rd_T40 l0 x7_2).f0.f1) ((rd_T40 l0 x7_2).f0.f2) ((rd_T40 l0 x7_2).f1) ((rd_T40 l0 x7_2).f2.f0) ((rd_T40 l0 x7_2).f2.f1) ((rd_T40 l0 x7_2).f2.f2.f0) ((rd_T40 l0 x7_2).f2.f2.f1) ((rd_T40 l0 x7_2).f2.f2.f2)).bind fun t160 => (if t160 = true then (if x6_2.length < 1599289640401 then (spec_LearnForm.l0 k2 l0 (x6_2 ++ [(⟨(⟨(rd_T40 l0 x7_2).f0.f0, (rd_T40 l0 x7_2).f0.f1, (rd_T40 l0 x7_2).f0.f2⟩ : S26), (rd_T40 l0 x7_2).f1, (⟨(rd_T40 l0 x7_2).f2.f0, (rd_T40 l0 x7_2).f2.f1, (⟨(rd_T40 l0 x7_2).f2.f2.f0, (rd_T40 l0 x7_2).f2.f2.f1, (rd_T40 l0 x7_2).f2.f2.f2⟩ : S26)⟩ : S38)⟩ : S40)]) (wrap64 (x7_2 + 1)) a1_0 a1_1 a1_2 0 0 0 false) else (none)) else (spec_LearnForm.l0 k2 l0 x6_2 (wrap64 (x7_2 + 1)) a1_0 a1_1 a1_2 0 0 0 false))) else (spec_LearnForm.l0 k2 l0 x6_2 (wrap64 (x7_2 + 1)) a1_0 a1_1 a1_2 0 0 0 false))) = some (r1, r2, r3, r4) := H
        have A29 := Aside0.mk A290
        clear A290
        replace H := Option.bind_eq_some_iff.mp H
        obtain ⟨⟨t156, t157, t158⟩, A300, H⟩ := H
        replace H : (if (t153 == t156 && (t154 == t157 && (t155 == t158))) = true then ((spec_l19Kind.f k2 ((rd_T40 l0 x7_2).f0.f0) ((rd_T40 l0 x7_2).f0.f1) ((rd_T40 l0 x7_2).f0.f2) ((rd_T40 l0 x7_2).f1) ((rd_T40 l0 x7_2).f2.f0) ((rd_T40 l0 x7_2).f2.f1) ((rd_T40 l0 x7_2).f2.f2.f0) ((rd_T40 l0 x7_2).f2.f2.f1) ((rd_T40 l0 x7_2).f2.f2.f2)).bind fun t160 => (if t160 = true then (if x6_2.length < 1599289640401 then (spec_LearnForm.l0 k2 l0 (x6_2 ++ [(⟨(⟨(rd_T40 l0 x7_2).f0.f0, (rd_T40 l0 x7_2).f0.f1, (rd_T40 l0 x7_2).f0.f2⟩ : S26), (rd_T40 l0 x7_2).f1, (⟨(rd_T40 l0 x7_2).f2.f0, (rd_T40 l0 x7_2).f2.f1, (⟨(rd_T40 l0 x7_2).f2.f2.f0, (rd_T40 l0 x7_2).f2.f2.f1, (rd_T40 l0 x7_2).f2.f2.f2⟩ : S26)⟩ : S38)⟩ : S40)]) (wrap64 (x7_2 + 1)) a1_0 a1_1 a1_2 0 0 0 false) else (none)) else (spec_LearnForm.l0 k2 l0 x6_2 (wrap64 (x7_2 + 1)) a1_0 a1_1 a1_2 0 0 0 false))) else (spec_LearnForm.l0 k2 l0 x6_2 (wrap64 (x7_2 + 1)) a1_0 a1_1 a1_2 0 0 0 false)) = some (r1, r2, r3, r4) := H
        have A30 := Aside0.mk A300
        clear A300
        by_cases c31 : (t153 == t156 && (t154 == t157 && (t155 == t158))) = true
        ·rw [if_pos c31] at H
         have c31b0 : (t153 == t156 && (t154 == t157 && (t155 == t158))) = true := c31
         (try (have c31b1 : decide (t153 = t156 && (t154 == t157 && (t155 == t158))) = true := by simpa using c31))
         (try (have c31b2 : (t153 == t156 && (t154 == t157 && (t155 == t158))) = true := by simpa using c31))
         clear c31
         replace H := Option.bind_eq_some_iff.mp H
         obtain ⟨t160, A320, H⟩ := H
         replace H : (if t160 = true then (if x6_2.length < 1599289640401 then (spec_LearnForm.l0 k2 l0 (x6_2 ++ [(⟨(⟨(rd_T40 l0 x7_2).f0.f0, (rd_T40 l0 x7_2).f0.f1, (rd_T40 l0 x7_2).f0.f2⟩ : S26), (rd_T40 l0 x7_2).f1, (⟨(rd_T40 l0 x7_2).f2.f0, (rd_T40 l0 x7_2).f2.f1, (⟨(rd_T40 l0 x7_2).f2.f2.f0, (rd_T40 l0 x7_2).f2.f2.f1, (rd_T40 l0 x7_2).f2.f2.f2⟩ : S26)⟩ : S38)⟩ : S40)]) (wrap64 (x7_2 + 1)) a1_0 a1_1 a1_2 0 0 0 false) else (none)) else (spec_LearnForm.l0 k2 l0 x6_2 (wrap64 (x7_2 + 1)) a1_0 a1_1 a1_2 0 0 0 false)) = some (r1, r2, r3, r4) := H
         have A32 := Aside0.mk A320
         clear A320
         by_cases c33 : t160 = true
         ·subst c33
          have H1 : (if x6_2.length < 1599289640401 then (spec_LearnForm.l0 k2 l0 (x6_2 ++ [(⟨(⟨(rd_T40 l0 x7_2).f0.f0, (rd_T40 l0 x7_2).f0.f1, (rd_T40 l0 x7_2).f0.f2⟩ : S26), (rd_T40 l0 x7_2).f1, (⟨(rd_T40 l0 x7_2).f2.f0, (rd_T40 l0 x7_2).f2.f1, (⟨(rd_T40 l0 x7_2).f2.f2.f0, (rd_T40 l0 x7_2).f2.f2.f1, (rd_T40 l0 x7_2).f2.f2.f2⟩ : S26)⟩ : S38)⟩ : S40)]) (wrap64 (x7_2 + 1)) a1_0 a1_1 a1_2 0 0 0 false) else (none)) = some (r1, r2, r3, r4) := by rw [if_pos rfl] at H; exact H
          clear H
          have H := H1
          clear H1
          by_cases c34 : x6_2.length < 1599289640401
          ·rw [if_pos c34] at H
           have LMc34 := Aside0.mk c34
           clear c34
           obtain ⟨y162, hy162⟩ : ∃ y_ : List (S40), y_ = (x6_2 ++ [(⟨(⟨(rd_T40 l0 x7_2).f0.f0, (rd_T40 l0 x7_2).f0.f1, (rd_T40 l0 x7_2).f0.f2⟩ : S26), (rd_T40 l0 x7_2).f1, (⟨(rd_T40 l0 x7_2).f2.f0, (rd_T40 l0 x7_2).f2.f1, (⟨(rd_T40 l0 x7_2).f2.f2.f0, (rd_T40 l0 x7_2).f2.f2.f1, (rd_T40 l0 x7_2).f2.f2.f2⟩ : S26)⟩ : S38)⟩ : S40)]) := ⟨_, rfl⟩
           replace H : (spec_LearnForm.l0 k2 l0 y162 (wrap64 (x7_2 + 1)) a1_0 a1_1 a1_2 0 0 0 false) = some (r1, r2, r3, r4) := by first | (rw [hy162]; with_reducible exact H) | (have H2_ := (Option.bind_some _ _).symm.trans H; rw [hy162]; with_reducible exact H2_) | (have H2_ := (Option.bind_some _ _).symm.trans H; with_reducible exact H2_) | with_reducible exact H | (rw [hy162]; exact H) | exact H
           have Ny162 := Aside0.mk hy162
           clear hy162
           have H' := Aside0.mk H
           clear H
           try go_wp2
           replace HO_0 := ak (Kd.V_drew HO_0.out)
           replace HO_6 := ak (Kd.N_drew HO_6.out)
           replace BK144 := ak (blk_drew BK144.out)
           replace BK145 := ak (blk_drew BK145.out)
           replace BK146 := ak (blk_drew BK146.out)
           replace HB := ak (below_drew1 HB.out)
           have p152 : 0 ≤ (x7_2 : Int) := of_decide_eq_true (by first | (with_reducible assumption) | assumption)
           have q152 : x7_2 < (l0.length : Int) := of_decide_eq_true (by first | (with_reducible assumption) | assumption)
           obtain ⟨ad152, A152_5, c152_5, e152, hx152_0, hx152_1, hx152_2, hx152_3, hx152_4, hx152_5, hx152_6, hx152_7, hx152_8, hl152_5, hi152_5⟩ := at_T40 (Kd.V_reads' HO_0.out).2.2 x7_2 p152 q152
           cases e152
           obtain ⟨ce152, hce152, hMe152, hcc152⟩ := Kd.V_get HO_0.out z40 x7_2 p152 (by first | exact q152 | exact of_decide_eq_true (by first | (with_reducible assumption) | assumption) | (have e_ := (Kd.V_reads' HO_0.out).1; omega))
           obtain ⟨ua152_5, uc152_5, rfl, ul152_5, ge152_5⟩ := k40_openF hMe152
           have hv152_5 := hcc152 5 _ rfl
           rw [add_field _ _ 5 (by omega)] at hv152_5
           replace hv152_5 := Option.some.inj (hv152_5.symm.trans hx152_5)
           injection hv152_5 with hva_ hvn_ hvc_
           rw [hva_] at ge152_5
           rw [hvc_] at ul152_5
           have HL152_5 := ak (show Kd.V (Kd.int .i64) 3 _ w.heap.size _ _ ((rd_T40 l0 x7_2).f2.f1) from Kd.V_mk ul152_5 ge152_5)
           clear hva_ hvn_ hvc_ ge152_5 ul152_5
           clear hcc152 hce152
           have HR152_5 := Aside0.mk hi152_5
           have HC152_5 := Aside0.mk hl152_5
           clear hi152_5 hl152_5
           replace p152 := eq_true p152
           replace q152 := eq_true q152
           have p159 : 0 ≤ (x7_2 : Int) := of_decide_eq_true (by first | (with_reducible assumption) | assumption)
           have q159 : x7_2 < (l0.length : Int) := of_decide_eq_true (by first | (with_reducible assumption) | assumption)
           obtain ⟨ad159, A159_5, c159_5, e159, hx159_0, hx159_1, hx159_2, hx159_3, hx159_4, hx159_5, hx159_6, hx159_7, hx159_8, hl159_5, hi159_5⟩ := at_T40 (Kd.V_reads' HO_0.out).2.2 x7_2 p159 q159
           obtain rfl : ad152 = ad159 := (by injection e159)
           obtain ⟨rfl, rfl⟩ : A159_5 = A152_5 ∧ c159_5 = c152_5 := by have e_ := Option.some.inj (hx159_5.symm.trans hx152_5); first | (injection e_ with a_ b_ c_; exact ⟨a_, c_⟩) | (injection e_ with a_ c_; exact ⟨a_, c_⟩)
           obtain ⟨ce159, hce159, hMe159, hcc159⟩ := Kd.V_get HO_0.out z40 x7_2 p159 (by first | exact q159 | exact of_decide_eq_true (by first | (with_reducible assumption) | assumption) | (have e_ := (Kd.V_reads' HO_0.out).1; omega))
           obtain ⟨ua159_5, uc159_5, rfl, ul159_5, ge159_5⟩ := k40_openF hMe159
           have hv159_5 := hcc159 5 _ rfl
           rw [add_field _ _ 5 (by omega)] at hv159_5
           replace hv159_5 := Option.some.inj (hv159_5.symm.trans hx159_5)
           injection hv159_5 with hva_ hvn_ hvc_
           rw [hva_] at ge159_5
           rw [hvc_] at ul159_5
           have HL159_5 := ak (show Kd.V (Kd.int .i64) 3 _ w.heap.size _ _ ((rd_T40 l0 x7_2).f2.f1) from Kd.V_mk ul159_5 ge159_5)
           clear hva_ hvn_ hvc_ ge159_5 ul159_5
           clear hcc159 hce159
           have HR159_5 := Aside0.mk hi159_5
           have HC159_5 := Aside0.mk hl159_5
           clear hi159_5 hl159_5
           replace p159 := eq_true p159
           replace q159 := eq_true q159
           refine start_ (n := 16) (S := fun w' => w'.cell? ⟨gb144, 0, none⟩ = some (.int .i64 a1_0) ∧ w'.cell? ⟨gb144, 1, none⟩ = some (.int .i64 a1_1) ∧ w'.cell? ⟨gb144, 2, none⟩ = some (.int .i64 a1_2) ∧ w'.cell? (ad152.add ((x7_2).toNat * 9)) = some (.int .i64 ((rd_T40 l0 x7_2).f0.f0)) ∧ w'.cell? ⟨(ad152.add ((x7_2).toNat * 9)).block, (ad152.add ((x7_2).toNat * 9)).off + 1, none⟩ = some (.int .i64 ((rd_T40 l0 x7_2).f0.f1)) ∧ w'.cell? ⟨(ad152.add ((x7_2).toNat * 9)).block, (ad152.add ((x7_2).toNat * 9)).off + 2, none⟩ = some (.int .i64 ((rd_T40 l0 x7_2).f0.f2)) ∧ w'.cell? ⟨(ad152.add ((x7_2).toNat * 9)).block, (ad152.add ((x7_2).toNat * 9)).off + 3, none⟩ = some (.int .i64 ((rd_T40 l0 x7_2).f1)) ∧ w'.cell? ⟨(ad152.add ((x7_2).toNat * 9)).block, (ad152.add ((x7_2).toNat * 9)).off + 4, none⟩ = some (.int .i64 ((rd_T40 l0 x7_2).f2.f0)) ∧ w'.cell? ⟨(ad152.add ((x7_2).toNat * 9)).block, (ad152.add ((x7_2).toNat * 9)).off + 5, none⟩ = some (.slice A159_5 ((rd_T40 l0 x7_2).f2.f1).length c159_5) ∧ w'.cell? ⟨(ad152.add ((x7_2).toNat * 9)).block, (ad152.add ((x7_2).toNat * 9)).off + 6, none⟩ = some (.int .i64 ((rd_T40 l0 x7_2).f2.f2.f0)) ∧ w'.cell? ⟨(ad152.add ((x7_2).toNat * 9)).block, (ad152.add ((x7_2).toNat * 9)).off + 7, none⟩ = some (.int .i64 ((rd_T40 l0 x7_2).f2.f2.f1)) ∧ w'.cell? ⟨(ad152.add ((x7_2).toNat * 9)).block, (ad152.add ((x7_2).toNat * 9)).off + 8, none⟩ = some (.int .i64 ((rd_T40 l0 x7_2).f2.f2.f2)) ∧ w'.cell? (ad152.add ((x7_2).toNat * 9)) = some (.int .i64 ((rd_T40 l0 x7_2).f0.f0)) ∧ w'.cell? ⟨(ad152.add ((x7_2).toNat * 9)).block, (ad152.add ((x7_2).toNat * 9)).off + 1, none⟩ = some (.int .i64 ((rd_T40 l0 x7_2).f0.f1)) ∧ w'.cell? ⟨(ad152.add ((x7_2).toNat * 9)).block, (ad152.add ((x7_2).toNat * 9)).off + 2, none⟩ = some (.int .i64 ((rd_T40 l0 x7_2).f0.f2)) ∧ w'.cell? ⟨(ad152.add ((x7_2).toNat * 9)).block, (ad152.add ((x7_2).toNat * 9)).off + 3, none⟩ = some (.int .i64 ((rd_T40 l0 x7_2).f1)) ∧ w'.cell? ⟨(ad152.add ((x7_2).toNat * 9)).block, (ad152.add ((x7_2).toNat * 9)).off + 4, none⟩ = some (.int .i64 ((rd_T40 l0 x7_2).f2.f0)) ∧ w'.cell? ⟨(ad152.add ((x7_2).toNat * 9)).block, (ad152.add ((x7_2).toNat * 9)).off + 5, none⟩ = some (.slice A159_5 ((rd_T40 l0 x7_2).f2.f1).length c159_5) ∧ w'.cell? ⟨(ad152.add ((x7_2).toNat * 9)).block, (ad152.add ((x7_2).toNat * 9)).off + 6, none⟩ = some (.int .i64 ((rd_T40 l0 x7_2).f2.f2.f0)) ∧ w'.cell? ⟨(ad152.add ((x7_2).toNat * 9)).block, (ad152.add ((x7_2).toNat * 9)).off + 7, none⟩ = some (.int .i64 ((rd_T40 l0 x7_2).f2.f2.f1)) ∧ w'.cell? ⟨(ad152.add ((x7_2).toNat * 9)).block, (ad152.add ((x7_2).toNat * 9)).off + 8, none⟩ = some (.int .i64 ((rd_T40 l0 x7_2).f2.f2.f2))) (ds := []) b5_57 KR rfl rfl ⟨(blk_cell BK144.out 0).trans rfl, (blk_cell BK144.out 1).trans rfl, (blk_cell BK144.out 2).trans rfl, hx152_0, hx152_1, hx152_2, hx152_3, hx152_4, hx152_5, hx152_6, hx152_7, hx152_8, hx159_0, hx159_1, hx159_2, hx159_3, hx159_4, hx159_5, hx159_6, hx159_7, hx159_8⟩ (fun hHeld => ?_); refine with_tabW spec_LearnForm.tab8 spec_LearnForm.bits8 (fun HT_ HW_ => ?_)
           generalize wr.drew = w35 at HO_0 HO_6 BK144 BK145 BK146 HB HL152_5 HL159_5 HR152_5 HR159_5 hx152_0 hx152_1 hx152_2 hx152_3 hx152_4 hx152_5 hx152_6 hx152_7 hx152_8 hx159_0 hx159_1 hx159_2 hx159_3 hx159_4 hx159_5 hx159_6 hx159_7 hx159_8 hHeld ⊢
           refine pu_ (i := 0) (N := some 29) b5_56 HT_ ?_
           refine pu_ (i := 1) (N := some 30) b5_55 HT_ ?_
           refine pu_ (i := 2) (N := some 31) b5_54 HT_ ?_
           refine pu_ (i := 3) (N := some 32) b5_53 HT_ ?_
           refine tk_ (i := 4) (N := some 33) b5_52 rfl rfl HT_ HW_ hHeld ?_
           refine take_ (i := 6) (N := some 35) (v := ?_) (a' := ?_) b5_51 rfl rfl (take_ofW HT_.out HW_.out KR) (fun _ _ _ h => h) (Or.inl ⟨by rfl, ?_⟩) hHeld ?_ ?_
           rotate_left
           ·rintro w' ⟨s0, s1, s2, s3, s4, s5, s6, s7, s8, s9, s10, s11, s12, s13, s14, s15, s16, s17, s18, s19, s20⟩
            go_simp
            with_reducible rfl
           rotate_left
           ·simp only [Act.put, List.setIfInBounds_toArray, List.set_cons_zero, List.set_cons_succ, i64_w, i32_w]
            rfl
           refine one_ (i := 5) (N := some 34) b5_50 rfl rfl (one_of HT_.out KR) (by decide) (fun K hK => ?_)
           refine goes_ Try.func109 KR rfl #[.agg #[.int .i64 ((rd_T40 l0 x7_2).f0.f0), .int .i64 ((rd_T40 l0 x7_2).f0.f1), .int .i64 ((rd_T40 l0 x7_2).f0.f2)]] (by rfl) rfl rfl AR ?_
           with_reducible refine (spec_WithoutQuery.calls ((rd_T40 l0 x7_2).f0.f0) ((rd_T40 l0 x7_2).f0.f1) ((rd_T40 l0 x7_2).f0.f2) t153 t154 t155 _ A29.out).mono ?_
           rintro e w36 ⟨rfl, hb⟩
           have HS3_ := hs_ hb hHeld.2.2.2.1; have HS4_ := hs_ hb hHeld.2.2.2.2.1; have HS5_ := hs_ hb hHeld.2.2.2.2.2.1; have HS6_ := hs_ hb hHeld.2.2.2.2.2.2.1; have HS7_ := hs_ hb hHeld.2.2.2.2.2.2.2.1; have HS8_ := hs_ hb hHeld.2.2.2.2.2.2.2.2.1; have HS9_ := hs_ hb hHeld.2.2.2.2.2.2.2.2.2.1; have HS10_ := hs_ hb hHeld.2.2.2.2.2.2.2.2.2.2.1; have HS11_ := hs_ hb hHeld.2.2.2.2.2.2.2.2.2.2.2.1; have HS12_ := hs_ hb hHeld.2.2.2.2.2.2.2.2.2.2.2.2.1; have HS13_ := hs_ hb hHeld.2.2.2.2.2.2.2.2.2.2.2.2.2.1; have HS14_ := hs_ hb hHeld.2.2.2.2.2.2.2.2.2.2.2.2.2.2.1; have HS15_ := hs_ hb hHeld.2.2.2.2.2.2.2.2.2.2.2.2.2.2.2.1; have HS16_ := hs_ hb hHeld.2.2.2.2.2.2.2.2.2.2.2.2.2.2.2.2.1; have HS17_ := hs_ hb hHeld.2.2.2.2.2.2.2.2.2.2.2.2.2.2.2.2.2.1; have HS18_ := hs_ hb hHeld.2.2.2.2.2.2.2.2.2.2.2.2.2.2.2.2.2.2.1; have HS19_ := hs_ hb hHeld.2.2.2.2.2.2.2.2.2.2.2.2.2.2.2.2.2.2.2.1; have HS20_ := hs_ hb hHeld.2.2.2.2.2.2.2.2.2.2.2.2.2.2.2.2.2.2.2.2
           refine ⟨_, rfl, ?_⟩
           have n0_ := Vb HO_0 hb
           have n1_ := Nb HO_6 hb
           have n2_ := Vb HL152_5 hb
           have n3_ := kf BK144 hb
           have n4_ := kf BK145 hb
           have n5_ := kf BK146 hb
           have n6_ := Cb HR152_5 hb
           have n7_ := bs HB hb
           have HL159_5 := Vb HL159_5 hb
           have HR159_5 := Cb HR159_5 hb
           clear HO_0
           clear HO_6
           clear HL152_5
           clear BK144
           clear BK145
           clear BK146
           clear HR152_5
           clear HB
           have HO_0 := n0_
           have HO_6 := n1_
           have HL152_5 := n2_
           have BK144 := n3_
           have BK145 := n4_
           have BK146 := n5_
           have HR152_5 := n6_
           have HB := n7_
           clear n0_ n1_ n2_ n3_ n4_ n5_ n6_ n7_
           (try clear hb)
           (try clear hb2)
           (try clear hk)
           (try clear hi)
           refine hK.out _ _ ⟨(blk_cell BK144.out 0).trans rfl, (blk_cell BK144.out 1).trans rfl, (blk_cell BK144.out 2).trans rfl, HS3_, HS4_, HS5_, HS6_, HS7_, HS8_, HS9_, HS10_, HS11_, HS12_, HS13_, HS14_, HS15_, HS16_, HS17_, HS18_, HS19_, HS20_⟩ (fun hHeld => ?_)
           clear hK K
           refine norm_ (a' := ?_) ?_ ?_
           rotate_left
           ·show Act.put _ (some 34) _ = _
            simp only [Act.put, List.setIfInBounds_toArray, List.set_cons_zero, List.set_cons_succ, i64_w, i32_w]
            rfl
           refine one_ (i := 7) (N := some 36) b5_49 rfl rfl (one_of HT_.out KR) (by decide) (fun K hK => ?_)
           refine goes_ Try.func109 KR rfl #[.agg #[.int .i64 a1_0, .int .i64 a1_1, .int .i64 a1_2]] (by rfl) rfl rfl AR ?_
           with_reducible refine (spec_WithoutQuery.calls a1_0 a1_1 a1_2 t156 t157 t158 _ A30.out).mono ?_
           rintro e w37 ⟨rfl, hb⟩
           have HS3_ := hs_ hb hHeld.2.2.2.1; have HS4_ := hs_ hb hHeld.2.2.2.2.1; have HS5_ := hs_ hb hHeld.2.2.2.2.2.1; have HS6_ := hs_ hb hHeld.2.2.2.2.2.2.1; have HS7_ := hs_ hb hHeld.2.2.2.2.2.2.2.1; have HS8_ := hs_ hb hHeld.2.2.2.2.2.2.2.2.1; have HS9_ := hs_ hb hHeld.2.2.2.2.2.2.2.2.2.1; have HS10_ := hs_ hb hHeld.2.2.2.2.2.2.2.2.2.2.1; have HS11_ := hs_ hb hHeld.2.2.2.2.2.2.2.2.2.2.2.1; have HS12_ := hs_ hb hHeld.2.2.2.2.2.2.2.2.2.2.2.2.1; have HS13_ := hs_ hb hHeld.2.2.2.2.2.2.2.2.2.2.2.2.2.1; have HS14_ := hs_ hb hHeld.2.2.2.2.2.2.2.2.2.2.2.2.2.2.1; have HS15_ := hs_ hb hHeld.2.2.2.2.2.2.2.2.2.2.2.2.2.2.2.1; have HS16_ := hs_ hb hHeld.2.2.2.2.2.2.2.2.2.2.2.2.2.2.2.2.1; have HS17_ := hs_ hb hHeld.2.2.2.2.2.2.2.2.2.2.2.2.2.2.2.2.2.1; have HS18_ := hs_ hb hHeld.2.2.2.2.2.2.2.2.2.2.2.2.2.2.2.2.2.2.1; have HS19_ := hs_ hb hHeld.2.2.2.2.2.2.2.2.2.2.2.2.2.2.2.2.2.2.2.1; have HS20_ := hs_ hb hHeld.2.2.2.2.2.2.2.2.2.2.2.2.2.2.2.2.2.2.2.2
           refine ⟨_, rfl, ?_⟩
           have n0_ := Vb HO_0 hb
           have n1_ := Nb HO_6 hb
           have n2_ := Vb HL152_5 hb
           have n3_ := kf BK144 hb
           have n4_ := kf BK145 hb
           have n5_ := kf BK146 hb
           have n6_ := Cb HR152_5 hb
           have n7_ := bs HB hb
           have HL159_5 := Vb HL159_5 hb
           have HR159_5 := Cb HR159_5 hb
           clear HO_0
           clear HO_6
           clear HL152_5
           clear BK144
           clear BK145
           clear BK146
           clear HR152_5
           clear HB
           have HO_0 := n0_
           have HO_6 := n1_
           have HL152_5 := n2_
           have BK144 := n3_
           have BK145 := n4_
           have BK146 := n5_
           have HR152_5 := n6_
           have HB := n7_
           clear n0_ n1_ n2_ n3_ n4_ n5_ n6_ n7_
           (try clear hb)
           (try clear hb2)
           (try clear hk)
           (try clear hi)
           refine hK.out _ _ ⟨(blk_cell BK144.out 0).trans rfl, (blk_cell BK144.out 1).trans rfl, (blk_cell BK144.out 2).trans rfl, HS3_, HS4_, HS5_, HS6_, HS7_, HS8_, HS9_, HS10_, HS11_, HS12_, HS13_, HS14_, HS15_, HS16_, HS17_, HS18_, HS19_, HS20_⟩ (fun hHeld => ?_)
           clear hK K
           refine norm_ (a' := ?_) ?_ ?_
           rotate_left
           ·show Act.put _ (some 36) _ = _
            simp only [Act.put, List.setIfInBounds_toArray, List.set_cons_zero, List.set_cons_succ, i64_w, i32_w]
            rfl
           refine pu_ (i := 8) (N := some 37) b5_48 HT_ ?_
           refine pu_ (i := 9) (N := some 38) b5_47 HT_ ?_
           refine pu_ (i := 10) (N := some 39) b5_46 HT_ ?_
           refine pu_ (i := 11) (N := some 40) b5_45 HT_ ?_
           refine pu_ (i := 12) (N := some 41) b5_44 HT_ ?_
           refine tk_ (i := 13) (N := some 42) b5_43 rfl rfl HT_ HW_ hHeld ?_
           refine one_ (i := 14) (N := some 43) b5_42 rfl rfl (one_of HT_.out KR) (by decide) (fun K hK => ?_)
           refine goes_ Try.func110 KR rfl #[.agg #[.int .i64 ((rd_T40 l0 x7_2).f0.f0), .int .i64 ((rd_T40 l0 x7_2).f0.f1), .int .i64 ((rd_T40 l0 x7_2).f0.f2), .int .i64 ((rd_T40 l0 x7_2).f1), .int .i64 ((rd_T40 l0 x7_2).f2.f0), .slice A159_5 ((rd_T40 l0 x7_2).f2.f1).length c159_5, .int .i64 ((rd_T40 l0 x7_2).f2.f2.f0), .int .i64 ((rd_T40 l0 x7_2).f2.f2.f1), .int .i64 ((rd_T40 l0 x7_2).f2.f2.f2)]] (by rfl) rfl rfl AR ?_
           with_reducible refine (spec_l19Kind.calls k2 ((rd_T40 l0 x7_2).f0.f0) ((rd_T40 l0 x7_2).f0.f1) ((rd_T40 l0 x7_2).f0.f2) ((rd_T40 l0 x7_2).f1) ((rd_T40 l0 x7_2).f2.f0) _ _ ((rd_T40 l0 x7_2).f2.f1) ((rd_T40 l0 x7_2).f2.f2.f0) ((rd_T40 l0 x7_2).f2.f2.f1) ((rd_T40 l0 x7_2).f2.f2.f2) true _ ?side1 ?side2 A32.out).mono ?_
           (case side1 => repeat (first | exact (PC HR159_5) | (with_reducible refine Kd.C_alloc ?_ _) | (with_reducible refine Kd.C_drewN ?_ _) | (with_reducible refine Kd.C_drew ?_)))
           (case side2 => exact HC159_5.out)
           rintro e w38 ⟨rfl, hb⟩
           have HS3_ := hs_ hb hHeld.2.2.2.1; have HS4_ := hs_ hb hHeld.2.2.2.2.1; have HS5_ := hs_ hb hHeld.2.2.2.2.2.1; have HS6_ := hs_ hb hHeld.2.2.2.2.2.2.1; have HS7_ := hs_ hb hHeld.2.2.2.2.2.2.2.1; have HS8_ := hs_ hb hHeld.2.2.2.2.2.2.2.2.1; have HS9_ := hs_ hb hHeld.2.2.2.2.2.2.2.2.2.1; have HS10_ := hs_ hb hHeld.2.2.2.2.2.2.2.2.2.2.1; have HS11_ := hs_ hb hHeld.2.2.2.2.2.2.2.2.2.2.2.1; have HS12_ := hs_ hb hHeld.2.2.2.2.2.2.2.2.2.2.2.2.1; have HS13_ := hs_ hb hHeld.2.2.2.2.2.2.2.2.2.2.2.2.2.1; have HS14_ := hs_ hb hHeld.2.2.2.2.2.2.2.2.2.2.2.2.2.2.1; have HS15_ := hs_ hb hHeld.2.2.2.2.2.2.2.2.2.2.2.2.2.2.2.1; have HS16_ := hs_ hb hHeld.2.2.2.2.2.2.2.2.2.2.2.2.2.2.2.2.1; have HS17_ := hs_ hb hHeld.2.2.2.2.2.2.2.2.2.2.2.2.2.2.2.2.2.1; have HS18_ := hs_ hb hHeld.2.2.2.2.2.2.2.2.2.2.2.2.2.2.2.2.2.2.1; have HS19_ := hs_ hb hHeld.2.2.2.2.2.2.2.2.2.2.2.2.2.2.2.2.2.2.2.1; have HS20_ := hs_ hb hHeld.2.2.2.2.2.2.2.2.2.2.2.2.2.2.2.2.2.2.2.2
           refine ⟨_, rfl, ?_⟩
           replace HO_0 := Vb HO_0 hb
           replace HO_6 := Nb HO_6 hb
           replace HL152_5 := Vb HL152_5 hb
           replace HL159_5 := Vb HL159_5 hb
           replace BK144 := kf BK144 hb
           replace BK145 := kf BK145 hb
           replace BK146 := kf BK146 hb
           replace HR152_5 := Cb HR152_5 hb
           replace HR159_5 := Cb HR159_5 hb
           replace HB := bs HB hb
           (try clear hb)
           (try clear hb2)
           (try clear hk)
           (try clear hi)
           refine hK.out _ _ ⟨(blk_cell BK144.out 0).trans rfl, (blk_cell BK144.out 1).trans rfl, (blk_cell BK144.out 2).trans rfl, HS3_, HS4_, HS5_, HS6_, HS7_, HS8_, HS9_, HS10_, HS11_, HS12_, HS13_, HS14_, HS15_, HS16_, HS17_, HS18_, HS19_, HS20_⟩ (fun hHeld => ?_)
           clear hK K
           refine norm_ (a' := ?_) ?_ ?_
           rotate_left
           ·show Act.put _ (some 43) _ = _
            simp only [Act.put, List.setIfInBounds_toArray, List.set_cons_zero, List.set_cons_succ, i64_w, i32_w]
            rfl
           refine pu_ (i := 15) (N := some 44) b5_41 HT_ ?_
           refine done_ (done_of HT_.out KR) ?_
           have p161 : 0 ≤ (x7_2 : Int) := of_decide_eq_true (by first | (with_reducible assumption) | assumption)
           have q161 : x7_2 < (l0.length : Int) := of_decide_eq_true (by first | (with_reducible assumption) | assumption)
           obtain ⟨ad161, A161_5, c161_5, e161, hx161_0, hx161_1, hx161_2, hx161_3, hx161_4, hx161_5, hx161_6, hx161_7, hx161_8, hl161_5, hi161_5⟩ := at_T40 (Kd.V_reads' HO_0.out).2.2 x7_2 p161 q161
           obtain rfl : ad152 = ad161 := (by injection e161)
           obtain ⟨rfl, rfl⟩ : A161_5 = A159_5 ∧ c161_5 = c159_5 := by have e_ := Option.some.inj (show some (Value.slice A161_5 _ c161_5) = some (Value.slice A159_5 _ c159_5) from hx161_5.symm.trans (by assumption)); first | (injection e_ with a_ b_ c_; exact ⟨a_, c_⟩) | (injection e_ with a_ c_; exact ⟨a_, c_⟩)
           obtain ⟨ce161, hce161, hMe161, hcc161⟩ := Kd.V_get HO_0.out z40 x7_2 p161 (by first | exact q161 | exact of_decide_eq_true (by first | (with_reducible assumption) | assumption) | (have e_ := (Kd.V_reads' HO_0.out).1; omega))
           obtain ⟨ua161_5, uc161_5, rfl, ul161_5, ge161_5⟩ := k40_openF hMe161
           have hv161_5 := hcc161 5 _ rfl
           rw [add_field _ _ 5 (by omega)] at hv161_5
           replace hv161_5 := Option.some.inj (hv161_5.symm.trans hx161_5)
           injection hv161_5 with hva_ hvn_ hvc_
           rw [hva_] at ge161_5
           rw [hvc_] at ul161_5
           have HL161_5 := ak (show Kd.V (Kd.int .i64) 3 _ w.heap.size _ _ ((rd_T40 l0 x7_2).f2.f1) from Kd.V_mk ul161_5 ge161_5)
           clear hva_ hvn_ hvc_ ge161_5 ul161_5
           clear hcc161 hce161
           have HR161_5 := Aside0.mk hi161_5
           have HC161_5 := Aside0.mk hl161_5
           clear hi161_5 hl161_5
           replace p161 := eq_true p161
           replace q161 := eq_true q161
           try go_wp2_with (first | ((with_reducible refine gate_builtin (b := .append) (xs := #[.tmp 45, .tmp 50]) rfl ?_); at_builtin; refine Kd.N_append k40 (w0 := w) w.heap.size rfl (.tmp 45) (.tmp 50) 24 40 (.agg #[(.int .i64 0), (.int .i64 0), (.int .i64 0), (.int .i64 0), (.int .i64 0), (.slice none 0 0), (.int .i64 0), (.int .i64 0), (.int .i64 0)]) 88 rfl Try.underlying24 info40 rfl (by decide) (by omega) u6 x6_2 (⟨(⟨(rd_T40 l0 x7_2).f0.f0, (rd_T40 l0 x7_2).f0.f1, (rd_T40 l0 x7_2).f0.f2⟩ : S26), (rd_T40 l0 x7_2).f1, (⟨(rd_T40 l0 x7_2).f2.f0, (rd_T40 l0 x7_2).f2.f1, (⟨(rd_T40 l0 x7_2).f2.f2.f0, (rd_T40 l0 x7_2).f2.f2.f1, (rd_T40 l0 x7_2).f2.f2.f2⟩ : S26)⟩ : S38)⟩ : S40) [.int .i64 ((rd_T40 l0 x7_2).f0.f0), .int .i64 ((rd_T40 l0 x7_2).f0.f1), .int .i64 ((rd_T40 l0 x7_2).f0.f2), .int .i64 ((rd_T40 l0 x7_2).f1), .int .i64 ((rd_T40 l0 x7_2).f2.f0), .slice A161_5 ((rd_T40 l0 x7_2).f2.f1).length c161_5, .int .i64 ((rd_T40 l0 x7_2).f2.f2.f0), .int .i64 ((rd_T40 l0 x7_2).f2.f2.f1), .int .i64 ((rd_T40 l0 x7_2).f2.f2.f2)] (fun k_ => (P0_ k_ ∨ w.heap.size ≤ k_) ∧ k_ ≠ gb144 ∧ k_ ≠ gb145 ∧ k_ ≠ gb146) (fun k_ => ((fun k_ => (P0_ k_ ∨ w.heap.size ≤ k_) ∧ k_ ≠ gb144 ∧ k_ ≠ gb145 ∧ k_ ≠ gb146)) k_ ∧ some k_ ≠ (u6 : Value).ownBlock) rfl rfl ?aP (fun _ hk => hk) ?aF ?aO ?aB ?aS ?aL ?_; (case aP => first | exact (k40_mkF _ _ (⟨(⟨(rd_T40 l0 x7_2).f0.f0, (rd_T40 l0 x7_2).f0.f1, (rd_T40 l0 x7_2).f0.f2⟩ : S26), (rd_T40 l0 x7_2).f1, (⟨(rd_T40 l0 x7_2).f2.f0, (rd_T40 l0 x7_2).f2.f1, (⟨(rd_T40 l0 x7_2).f2.f2.f0, (rd_T40 l0 x7_2).f2.f2.f1, (rd_T40 l0 x7_2).f2.f2.f2⟩ : S26)⟩ : S38)⟩ : S40) (Kd.V_reads' (Kd.V_mono (ok' := (fun k_ => ((fun k_ => (P0_ k_ ∨ w.heap.size ≤ k_) ∧ k_ ≠ gb144 ∧ k_ ≠ gb145 ∧ k_ ≠ gb146)) k_ ∧ some k_ ≠ (u6 : Value).ownBlock)) (HL161_5.out) (fun k_ hk => ⟨⟨hk.1, ⟨hk.2.2.1, ⟨hk.2.2.2.1, hk.2.2.2.2⟩⟩⟩, hk.2.1⟩))).2.1 (Kd.V_F (Kd.V_mono (ok' := (fun k_ => ((fun k_ => (P0_ k_ ∨ w.heap.size ≤ k_) ∧ k_ ≠ gb144 ∧ k_ ≠ gb145 ∧ k_ ≠ gb146)) k_ ∧ some k_ ≠ (u6 : Value).ownBlock)) (HL161_5.out) (fun k_ hk => ⟨⟨hk.1, ⟨hk.2.2.1, ⟨hk.2.2.2.1, hk.2.2.2.2⟩⟩⟩, hk.2.1⟩)))) | (have z1_ := (Kd.V_mono (ok' := (fun k_ => ((fun k_ => (P0_ k_ ∨ w.heap.size ≤ k_) ∧ k_ ≠ gb144 ∧ k_ ≠ gb145 ∧ k_ ≠ gb146)) k_ ∧ some k_ ≠ (u6 : Value).ownBlock)) (Kd.V_drewN HL161_5.out nd) (fun k_ hk => ⟨⟨hk.1, ⟨hk.2.2.1, ⟨hk.2.2.2.1, hk.2.2.2.2⟩⟩⟩, hk.2.1⟩)); exact k40_mkF _ _ (⟨(⟨(rd_T40 l0 x7_2).f0.f0, (rd_T40 l0 x7_2).f0.f1, (rd_T40 l0 x7_2).f0.f2⟩ : S26), (rd_T40 l0 x7_2).f1, (⟨(rd_T40 l0 x7_2).f2.f0, (rd_T40 l0 x7_2).f2.f1, (⟨(rd_T40 l0 x7_2).f2.f2.f0, (rd_T40 l0 x7_2).f2.f2.f1, (rd_T40 l0 x7_2).f2.f2.f2⟩ : S26)⟩ : S38)⟩ : S40) (Kd.V_reads' z1_).2.1 (Kd.V_F z1_))); (case aB => exact PB); (case aF => exact (fun k_ hk => ⟨(.inr (Nat.le_trans (below_size PB) hk)), Kd.freshB (g := gb144) (o := .cells #[.int .i64 a1_0, .int .i64 a1_1, .int .i64 a1_2] 26 (0, 0)) (PK BK144) k_ hk, Kd.freshB (g := gb145) (o := .cells #[.int .i64 0, .int .i64 0, .int .i64 0, .bool false] 85 (0, 0)) (PK BK145) k_ hk, Kd.freshB (g := gb146) (o := .cells #[.int .i64 0, .int .i64 0, .int .i64 0, .bool false] 85 (0, 0)) (PK BK146) k_ hk⟩)); (case aO => exact (PN HO_6)); (case aS => exact (below_size PB)); (case aL => have := LMc34.out; omega); intro v163 w39 ho hb hg hat; rw [← Ny162.out] at ho; replace HO_0 := ak (Kd.V_afterv (ok := (fun k_ => (P0_ k_ ∨ w.heap.size ≤ k_) ∧ k_ ≠ gb144 ∧ k_ ≠ gb145 ∧ k_ ≠ gb146)) (VX HO_0.out (fun _ hk => ⟨⟨hk.1, ⟨hk.2.2.1, ⟨hk.2.2.2.1, hk.2.2.2.2⟩⟩⟩, hk.2.1⟩)) hg hat); replace BK144 := ak (blk_grown (g := gb144) (o := .cells #[.int .i64 a1_0, .int .i64 a1_1, .int .i64 a1_2] 26 (0, 0)) (PK BK144) hg (Kd.N_ne HO_6.out BK144.out (by decide))); replace BK145 := ak (blk_grown (g := gb145) (o := .cells #[.int .i64 0, .int .i64 0, .int .i64 0, .bool false] 85 (0, 0)) (PK BK145) hg (Kd.N_ne HO_6.out BK145.out (by decide))); replace BK146 := ak (blk_grown (g := gb146) (o := .cells #[.int .i64 0, .int .i64 0, .int .i64 0, .bool false] 85 (0, 0)) (PK BK146) hg (Kd.N_ne HO_6.out BK146.out (by decide))); replace HL152_5 := ak (Kd.V_afterv (ok := (fun k_ => (P0_ k_ ∨ w.heap.size ≤ k_) ∧ k_ ≠ gb144 ∧ k_ ≠ gb145 ∧ k_ ≠ gb146)) (VX HL152_5.out (fun _ hk => ⟨⟨hk.1, ⟨hk.2.2.1, ⟨hk.2.2.2.1, hk.2.2.2.2⟩⟩⟩, hk.2.1⟩)) hg hat); replace HL159_5 := ak (Kd.V_afterv (ok := (fun k_ => (P0_ k_ ∨ w.heap.size ≤ k_) ∧ k_ ≠ gb144 ∧ k_ ≠ gb145 ∧ k_ ≠ gb146)) (VX HL159_5.out (fun _ hk => ⟨⟨hk.1, ⟨hk.2.2.1, ⟨hk.2.2.2.1, hk.2.2.2.2⟩⟩⟩, hk.2.1⟩)) hg hat); replace HL161_5 := ak (Kd.V_afterv (ok := (fun k_ => (P0_ k_ ∨ w.heap.size ≤ k_) ∧ k_ ≠ gb144 ∧ k_ ≠ gb145 ∧ k_ ≠ gb146)) (VX HL161_5.out (fun _ hk => ⟨⟨hk.1, ⟨hk.2.2.1, ⟨hk.2.2.2.1, hk.2.2.2.2⟩⟩⟩, hk.2.1⟩)) hg hat); replace HB := ak hb; have HO164 := ak (ho); clear HO_6; clear ho hb hg hat))
           go_roundg k2
           case measure => have := HJ2.out; have := HK2.out; omega
           case rel => exact ⟨(y162), (wrap64 (x7_2 + 1)), (by first | rfl | (simp; done) | (simp [*]; done)), H', ⟨by have := HJ2.out; have := HK2.out; omega⟩, ⟨VX HO_0.out (fun _ hk => ⟨hk.1.1, ⟨hk.2, ⟨hk.1.2.1, ⟨hk.1.2.2.1, hk.1.2.2.2⟩⟩⟩⟩)⟩, ⟨PN HO164⟩, ⟨PK BK144⟩, ⟨PK BK145⟩, ⟨PK BK146⟩, ⟨PB⟩⟩
          ·rw [if_neg c34] at H
           exact absurd H (by simp)
         ·replace c33 := Bool.eq_false_iff.mpr c33
          subst c33
          have H1 : (spec_LearnForm.l0 k2 l0 x6_2 (wrap64 (x7_2 + 1)) a1_0 a1_1 a1_2 0 0 0 false) = some (r1, r2, r3, r4) := by rw [if_neg (show ¬ (false = true) by decide)] at H; exact H
          clear H
          have H := H1
          clear H1
          have H' := Aside0.mk H
          clear H
          try go_wp2
          replace HO_0 := ak (Kd.V_drew HO_0.out)
          replace HO_6 := ak (Kd.N_drew HO_6.out)
          replace BK144 := ak (blk_drew BK144.out)
          replace BK145 := ak (blk_drew BK145.out)
          replace BK146 := ak (blk_drew BK146.out)
          replace HB := ak (below_drew1 HB.out)
          have p152 : 0 ≤ (x7_2 : Int) := of_decide_eq_true (by first | (with_reducible assumption) | assumption)
          have q152 : x7_2 < (l0.length : Int) := of_decide_eq_true (by first | (with_reducible assumption) | assumption)
          obtain ⟨ad152, A152_5, c152_5, e152, hx152_0, hx152_1, hx152_2, hx152_3, hx152_4, hx152_5, hx152_6, hx152_7, hx152_8, hl152_5, hi152_5⟩ := at_T40 (Kd.V_reads' HO_0.out).2.2 x7_2 p152 q152
          cases e152
          obtain ⟨ce152, hce152, hMe152, hcc152⟩ := Kd.V_get HO_0.out z40 x7_2 p152 (by first | exact q152 | exact of_decide_eq_true (by first | (with_reducible assumption) | assumption) | (have e_ := (Kd.V_reads' HO_0.out).1; omega))
          obtain ⟨ua152_5, uc152_5, rfl, ul152_5, ge152_5⟩ := k40_openF hMe152
          have hv152_5 := hcc152 5 _ rfl
          rw [add_field _ _ 5 (by omega)] at hv152_5
          replace hv152_5 := Option.some.inj (hv152_5.symm.trans hx152_5)
          injection hv152_5 with hva_ hvn_ hvc_
          rw [hva_] at ge152_5
          rw [hvc_] at ul152_5
          have HL152_5 := ak (show Kd.V (Kd.int .i64) 3 _ w.heap.size _ _ ((rd_T40 l0 x7_2).f2.f1) from Kd.V_mk ul152_5 ge152_5)
          clear hva_ hvn_ hvc_ ge152_5 ul152_5
          clear hcc152 hce152
          have HR152_5 := Aside0.mk hi152_5
          have HC152_5 := Aside0.mk hl152_5
          clear hi152_5 hl152_5
          replace p152 := eq_true p152
          replace q152 := eq_true q152
          have p159 : 0 ≤ (x7_2 : Int) := of_decide_eq_true (by first | (with_reducible assumption) | assumption)
          have q159 : x7_2 < (l0.length : Int) := of_decide_eq_true (by first | (with_reducible assumption) | assumption)
          obtain ⟨ad159, A159_5, c159_5, e159, hx159_0, hx159_1, hx159_2, hx159_3, hx159_4, hx159_5, hx159_6, hx159_7, hx159_8, hl159_5, hi159_5⟩ := at_T40 (Kd.V_reads' HO_0.out).2.2 x7_2 p159 q159
          obtain rfl : ad152 = ad159 := (by injection e159)
          obtain ⟨rfl, rfl⟩ : A159_5 = A152_5 ∧ c159_5 = c152_5 := by have e_ := Option.some.inj (hx159_5.symm.trans hx152_5); first | (injection e_ with a_ b_ c_; exact ⟨a_, c_⟩) | (injection e_ with a_ c_; exact ⟨a_, c_⟩)
          obtain ⟨ce159, hce159, hMe159, hcc159⟩ := Kd.V_get HO_0.out z40 x7_2 p159 (by first | exact q159 | exact of_decide_eq_true (by first | (with_reducible assumption) | assumption) | (have e_ := (Kd.V_reads' HO_0.out).1; omega))
          obtain ⟨ua159_5, uc159_5, rfl, ul159_5, ge159_5⟩ := k40_openF hMe159
          have hv159_5 := hcc159 5 _ rfl
          rw [add_field _ _ 5 (by omega)] at hv159_5
          replace hv159_5 := Option.some.inj (hv159_5.symm.trans hx159_5)
          injection hv159_5 with hva_ hvn_ hvc_
          rw [hva_] at ge159_5
          rw [hvc_] at ul159_5
          have HL159_5 := ak (show Kd.V (Kd.int .i64) 3 _ w.heap.size _ _ ((rd_T40 l0 x7_2).f2.f1) from Kd.V_mk ul159_5 ge159_5)
          clear hva_ hvn_ hvc_ ge159_5 ul159_5
          clear hcc159 hce159
          have HR159_5 := Aside0.mk hi159_5
          have HC159_5 := Aside0.mk hl159_5
          clear hi159_5 hl159_5
          replace p159 := eq_true p159
          replace q159 := eq_true q159
          refine start_ (n := 16) (S := fun w' => w'.cell? ⟨gb144, 0, none⟩ = some (.int .i64 a1_0) ∧ w'.cell? ⟨gb144, 1, none⟩ = some (.int .i64 a1_1) ∧ w'.cell? ⟨gb144, 2, none⟩ = some (.int .i64 a1_2) ∧ w'.cell? (ad152.add ((x7_2).toNat * 9)) = some (.int .i64 ((rd_T40 l0 x7_2).f0.f0)) ∧ w'.cell? ⟨(ad152.add ((x7_2).toNat * 9)).block, (ad152.add ((x7_2).toNat * 9)).off + 1, none⟩ = some (.int .i64 ((rd_T40 l0 x7_2).f0.f1)) ∧ w'.cell? ⟨(ad152.add ((x7_2).toNat * 9)).block, (ad152.add ((x7_2).toNat * 9)).off + 2, none⟩ = some (.int .i64 ((rd_T40 l0 x7_2).f0.f2)) ∧ w'.cell? ⟨(ad152.add ((x7_2).toNat * 9)).block, (ad152.add ((x7_2).toNat * 9)).off + 3, none⟩ = some (.int .i64 ((rd_T40 l0 x7_2).f1)) ∧ w'.cell? ⟨(ad152.add ((x7_2).toNat * 9)).block, (ad152.add ((x7_2).toNat * 9)).off + 4, none⟩ = some (.int .i64 ((rd_T40 l0 x7_2).f2.f0)) ∧ w'.cell? ⟨(ad152.add ((x7_2).toNat * 9)).block, (ad152.add ((x7_2).toNat * 9)).off + 5, none⟩ = some (.slice A159_5 ((rd_T40 l0 x7_2).f2.f1).length c159_5) ∧ w'.cell? ⟨(ad152.add ((x7_2).toNat * 9)).block, (ad152.add ((x7_2).toNat * 9)).off + 6, none⟩ = some (.int .i64 ((rd_T40 l0 x7_2).f2.f2.f0)) ∧ w'.cell? ⟨(ad152.add ((x7_2).toNat * 9)).block, (ad152.add ((x7_2).toNat * 9)).off + 7, none⟩ = some (.int .i64 ((rd_T40 l0 x7_2).f2.f2.f1)) ∧ w'.cell? ⟨(ad152.add ((x7_2).toNat * 9)).block, (ad152.add ((x7_2).toNat * 9)).off + 8, none⟩ = some (.int .i64 ((rd_T40 l0 x7_2).f2.f2.f2)) ∧ w'.cell? (ad152.add ((x7_2).toNat * 9)) = some (.int .i64 ((rd_T40 l0 x7_2).f0.f0)) ∧ w'.cell? ⟨(ad152.add ((x7_2).toNat * 9)).block, (ad152.add ((x7_2).toNat * 9)).off + 1, none⟩ = some (.int .i64 ((rd_T40 l0 x7_2).f0.f1)) ∧ w'.cell? ⟨(ad152.add ((x7_2).toNat * 9)).block, (ad152.add ((x7_2).toNat * 9)).off + 2, none⟩ = some (.int .i64 ((rd_T40 l0 x7_2).f0.f2)) ∧ w'.cell? ⟨(ad152.add ((x7_2).toNat * 9)).block, (ad152.add ((x7_2).toNat * 9)).off + 3, none⟩ = some (.int .i64 ((rd_T40 l0 x7_2).f1)) ∧ w'.cell? ⟨(ad152.add ((x7_2).toNat * 9)).block, (ad152.add ((x7_2).toNat * 9)).off + 4, none⟩ = some (.int .i64 ((rd_T40 l0 x7_2).f2.f0)) ∧ w'.cell? ⟨(ad152.add ((x7_2).toNat * 9)).block, (ad152.add ((x7_2).toNat * 9)).off + 5, none⟩ = some (.slice A159_5 ((rd_T40 l0 x7_2).f2.f1).length c159_5) ∧ w'.cell? ⟨(ad152.add ((x7_2).toNat * 9)).block, (ad152.add ((x7_2).toNat * 9)).off + 6, none⟩ = some (.int .i64 ((rd_T40 l0 x7_2).f2.f2.f0)) ∧ w'.cell? ⟨(ad152.add ((x7_2).toNat * 9)).block, (ad152.add ((x7_2).toNat * 9)).off + 7, none⟩ = some (.int .i64 ((rd_T40 l0 x7_2).f2.f2.f1)) ∧ w'.cell? ⟨(ad152.add ((x7_2).toNat * 9)).block, (ad152.add ((x7_2).toNat * 9)).off + 8, none⟩ = some (.int .i64 ((rd_T40 l0 x7_2).f2.f2.f2))) (ds := []) b5_57 KR rfl rfl ⟨(blk_cell BK144.out 0).trans rfl, (blk_cell BK144.out 1).trans rfl, (blk_cell BK144.out 2).trans rfl, hx152_0, hx152_1, hx152_2, hx152_3, hx152_4, hx152_5, hx152_6, hx152_7, hx152_8, hx159_0, hx159_1, hx159_2, hx159_3, hx159_4, hx159_5, hx159_6, hx159_7, hx159_8⟩ (fun hHeld => ?_); refine with_tabW spec_LearnForm.tab8 spec_LearnForm.bits8 (fun HT_ HW_ => ?_)
          generalize wr.drew = w40 at HO_0 HO_6 BK144 BK145 BK146 HB HL152_5 HL159_5 HR152_5 HR159_5 hx152_0 hx152_1 hx152_2 hx152_3 hx152_4 hx152_5 hx152_6 hx152_7 hx152_8 hx159_0 hx159_1 hx159_2 hx159_3 hx159_4 hx159_5 hx159_6 hx159_7 hx159_8 hHeld ⊢
          refine pu_ (i := 0) (N := some 29) b5_56 HT_ ?_
          refine pu_ (i := 1) (N := some 30) b5_55 HT_ ?_
          refine pu_ (i := 2) (N := some 31) b5_54 HT_ ?_
          refine pu_ (i := 3) (N := some 32) b5_53 HT_ ?_
          refine tk_ (i := 4) (N := some 33) b5_52 rfl rfl HT_ HW_ hHeld ?_
          refine take_ (i := 6) (N := some 35) (v := ?_) (a' := ?_) b5_51 rfl rfl (take_ofW HT_.out HW_.out KR) (fun _ _ _ h => h) (Or.inl ⟨by rfl, ?_⟩) hHeld ?_ ?_
          rotate_left
          ·rintro w' ⟨s0, s1, s2, s3, s4, s5, s6, s7, s8, s9, s10, s11, s12, s13, s14, s15, s16, s17, s18, s19, s20⟩
           go_simp
           with_reducible rfl
          rotate_left
          ·simp only [Act.put, List.setIfInBounds_toArray, List.set_cons_zero, List.set_cons_succ, i64_w, i32_w]
           rfl
          refine one_ (i := 5) (N := some 34) b5_50 rfl rfl (one_of HT_.out KR) (by decide) (fun K hK => ?_)
          refine goes_ Try.func109 KR rfl #[.agg #[.int .i64 ((rd_T40 l0 x7_2).f0.f0), .int .i64 ((rd_T40 l0 x7_2).f0.f1), .int .i64 ((rd_T40 l0 x7_2).f0.f2)]] (by rfl) rfl rfl AR ?_
          with_reducible refine (spec_WithoutQuery.calls ((rd_T40 l0 x7_2).f0.f0) ((rd_T40 l0 x7_2).f0.f1) ((rd_T40 l0 x7_2).f0.f2) t153 t154 t155 _ A29.out).mono ?_
          rintro e w41 ⟨rfl, hb⟩
          have HS3_ := hs_ hb hHeld.2.2.2.1; have HS4_ := hs_ hb hHeld.2.2.2.2.1; have HS5_ := hs_ hb hHeld.2.2.2.2.2.1; have HS6_ := hs_ hb hHeld.2.2.2.2.2.2.1; have HS7_ := hs_ hb hHeld.2.2.2.2.2.2.2.1; have HS8_ := hs_ hb hHeld.2.2.2.2.2.2.2.2.1; have HS9_ := hs_ hb hHeld.2.2.2.2.2.2.2.2.2.1; have HS10_ := hs_ hb hHeld.2.2.2.2.2.2.2.2.2.2.1; have HS11_ := hs_ hb hHeld.2.2.2.2.2.2.2.2.2.2.2.1; have HS12_ := hs_ hb hHeld.2.2.2.2.2.2.2.2.2.2.2.2.1; have HS13_ := hs_ hb hHeld.2.2.2.2.2.2.2.2.2.2.2.2.2.1; have HS14_ := hs_ hb hHeld.2.2.2.2.2.2.2.2.2.2.2.2.2.2.1; have HS15_ := hs_ hb hHeld.2.2.2.2.2.2.2.2.2.2.2.2.2.2.2.1; have HS16_ := hs_ hb hHeld.2.2.2.2.2.2.2.2.2.2.2.2.2.2.2.2.1; have HS17_ := hs_ hb hHeld.2.2.2.2.2.2.2.2.2.2.2.2.2.2.2.2.2.1; have HS18_ := hs_ hb hHeld.2.2.2.2.2.2.2.2.2.2.2.2.2.2.2.2.2.2.1; have HS19_ := hs_ hb hHeld.2.2.2.2.2.2.2.2.2.2.2.2.2.2.2.2.2.2.2.1; have HS20_ := hs_ hb hHeld.2.2.2.2.2.2.2.2.2.2.2.2.2.2.2.2.2.2.2.2
          refine ⟨_, rfl, ?_⟩
          have n0_ := Vb HO_0 hb
          have n1_ := Nb HO_6 hb
          have n2_ := Vb HL152_5 hb
          have n3_ := kf BK144 hb
          have n4_ := kf BK145 hb
          have n5_ := kf BK146 hb
          have n6_ := Cb HR152_5 hb
          have n7_ := bs HB hb
          have HL159_5 := Vb HL159_5 hb
          have HR159_5 := Cb HR159_5 hb
          clear HO_0
          clear HO_6
          clear HL152_5
          clear BK144
          clear BK145
          clear BK146
          clear HR152_5
          clear HB
          have HO_0 := n0_
          have HO_6 := n1_
          have HL152_5 := n2_
          have BK144 := n3_
          have BK145 := n4_
          have BK146 := n5_
          have HR152_5 := n6_
          have HB := n7_
          clear n0_ n1_ n2_ n3_ n4_ n5_ n6_ n7_
          (try clear hb)
          (try clear hb2)
          (try clear hk)
          (try clear hi)
          refine hK.out _ _ ⟨(blk_cell BK144.out 0).trans rfl, (blk_cell BK144.out 1).trans rfl, (blk_cell BK144.out 2).trans rfl, HS3_, HS4_, HS5_, HS6_, HS7_, HS8_, HS9_, HS10_, HS11_, HS12_, HS13_, HS14_, HS15_, HS16_, HS17_, HS18_, HS19_, HS20_⟩ (fun hHeld => ?_)
          clear hK K
          refine norm_ (a' := ?_) ?_ ?_
          rotate_left
          ·show Act.put _ (some 34) _ = _
           simp only [Act.put, List.setIfInBounds_toArray, List.set_cons_zero, List.set_cons_succ, i64_w, i32_w]
           rfl
          refine one_ (i := 7) (N := some 36) b5_49 rfl rfl (one_of HT_.out KR) (by decide) (fun K hK => ?_)
          refine goes_ Try.func109 KR rfl #[.agg #[.int .i64 a1_0, .int .i64 a1_1, .int .i64 a1_2]] (by rfl) rfl rfl AR ?_
          with_reducible refine (spec_WithoutQuery.calls a1_0 a1_1 a1_2 t156 t157 t158 _ A30.out).mono ?_
          rintro e w42 ⟨rfl, hb⟩
          have HS3_ := hs_ hb hHeld.2.2.2.1; have HS4_ := hs_ hb hHeld.2.2.2.2.1; have HS5_ := hs_ hb hHeld.2.2.2.2.2.1; have HS6_ := hs_ hb hHeld.2.2.2.2.2.2.1; have HS7_ := hs_ hb hHeld.2.2.2.2.2.2.2.1; have HS8_ := hs_ hb hHeld.2.2.2.2.2.2.2.2.1; have HS9_ := hs_ hb hHeld.2.2.2.2.2.2.2.2.2.1; have HS10_ := hs_ hb hHeld.2.2.2.2.2.2.2.2.2.2.1; have HS11_ := hs_ hb hHeld.2.2.2.2.2.2.2.2.2.2.2.1; have HS12_ := hs_ hb hHeld.2.2.2.2.2.2.2.2.2.2.2.2.1; have HS13_ := hs_ hb hHeld.2.2.2.2.2.2.2.2.2.2.2.2.2.1; have HS14_ := hs_ hb hHeld.2.2.2.2.2.2.2.2.2.2.2.2.2.2.1; have HS15_ := hs_ hb hHeld.2.2.2.2.2.2.2.2.2.2.2.2.2.2.2.1; have HS16_ := hs_ hb hHeld.2.2.2.2.2.2.2.2.2.2.2.2.2.2.2.2.1; have HS17_ := hs_ hb hHeld.2.2.2.2.2.2.2.2.2.2.2.2.2.2.2.2.2.1; have HS18_ := hs_ hb hHeld.2.2.2.2.2.2.2.2.2.2.2.2.2.2.2.2.2.2.1; have HS19_ := hs_ hb hHeld.2.2.2.2.2.2.2.2.2.2.2.2.2.2.2.2.2.2.2.1; have HS20_ := hs_ hb hHeld.2.2.2.2.2.2.2.2.2.2.2.2.2.2.2.2.2.2.2.2
          refine ⟨_, rfl, ?_⟩
          have n0_ := Vb HO_0 hb
          have n1_ := Nb HO_6 hb
          have n2_ := Vb HL152_5 hb
          have n3_ := kf BK144 hb
          have n4_ := kf BK145 hb
          have n5_ := kf BK146 hb
          have n6_ := Cb HR152_5 hb
          have n7_ := bs HB hb
          have HL159_5 := Vb HL159_5 hb
          have HR159_5 := Cb HR159_5 hb
          clear HO_0
          clear HO_6
          clear HL152_5
          clear BK144
          clear BK145
          clear BK146
          clear HR152_5
          clear HB
          have HO_0 := n0_
          have HO_6 := n1_
          have HL152_5 := n2_
          have BK144 := n3_
          have BK145 := n4_
          have BK146 := n5_
          have HR152_5 := n6_
          have HB := n7_
          clear n0_ n1_ n2_ n3_ n4_ n5_ n6_ n7_
          (try clear hb)
          (try clear hb2)
          (try clear hk)
          (try clear hi)
          refine hK.out _ _ ⟨(blk_cell BK144.out 0).trans rfl, (blk_cell BK144.out 1).trans rfl, (blk_cell BK144.out 2).trans rfl, HS3_, HS4_, HS5_, HS6_, HS7_, HS8_, HS9_, HS10_, HS11_, HS12_, HS13_, HS14_, HS15_, HS16_, HS17_, HS18_, HS19_, HS20_⟩ (fun hHeld => ?_)
          clear hK K
          refine norm_ (a' := ?_) ?_ ?_
          rotate_left
          ·show Act.put _ (some 36) _ = _
           simp only [Act.put, List.setIfInBounds_toArray, List.set_cons_zero, List.set_cons_succ, i64_w, i32_w]
           rfl
          refine pu_ (i := 8) (N := some 37) b5_48 HT_ ?_
          refine pu_ (i := 9) (N := some 38) b5_47 HT_ ?_
          refine pu_ (i := 10) (N := some 39) b5_46 HT_ ?_
          refine pu_ (i := 11) (N := some 40) b5_45 HT_ ?_
          refine pu_ (i := 12) (N := some 41) b5_44 HT_ ?_
          refine tk_ (i := 13) (N := some 42) b5_43 rfl rfl HT_ HW_ hHeld ?_
          refine one_ (i := 14) (N := some 43) b5_42 rfl rfl (one_of HT_.out KR) (by decide) (fun K hK => ?_)
          refine goes_ Try.func110 KR rfl #[.agg #[.int .i64 ((rd_T40 l0 x7_2).f0.f0), .int .i64 ((rd_T40 l0 x7_2).f0.f1), .int .i64 ((rd_T40 l0 x7_2).f0.f2), .int .i64 ((rd_T40 l0 x7_2).f1), .int .i64 ((rd_T40 l0 x7_2).f2.f0), .slice A159_5 ((rd_T40 l0 x7_2).f2.f1).length c159_5, .int .i64 ((rd_T40 l0 x7_2).f2.f2.f0), .int .i64 ((rd_T40 l0 x7_2).f2.f2.f1), .int .i64 ((rd_T40 l0 x7_2).f2.f2.f2)]] (by rfl) rfl rfl AR ?_
          with_reducible refine (spec_l19Kind.calls k2 ((rd_T40 l0 x7_2).f0.f0) ((rd_T40 l0 x7_2).f0.f1) ((rd_T40 l0 x7_2).f0.f2) ((rd_T40 l0 x7_2).f1) ((rd_T40 l0 x7_2).f2.f0) _ _ ((rd_T40 l0 x7_2).f2.f1) ((rd_T40 l0 x7_2).f2.f2.f0) ((rd_T40 l0 x7_2).f2.f2.f1) ((rd_T40 l0 x7_2).f2.f2.f2) false _ ?side1 ?side2 A32.out).mono ?_
          (case side1 => repeat (first | exact (PC HR159_5) | (with_reducible refine Kd.C_alloc ?_ _) | (with_reducible refine Kd.C_drewN ?_ _) | (with_reducible refine Kd.C_drew ?_)))
          (case side2 => exact HC159_5.out)
          rintro e w43 ⟨rfl, hb⟩
          have HS3_ := hs_ hb hHeld.2.2.2.1; have HS4_ := hs_ hb hHeld.2.2.2.2.1; have HS5_ := hs_ hb hHeld.2.2.2.2.2.1; have HS6_ := hs_ hb hHeld.2.2.2.2.2.2.1; have HS7_ := hs_ hb hHeld.2.2.2.2.2.2.2.1; have HS8_ := hs_ hb hHeld.2.2.2.2.2.2.2.2.1; have HS9_ := hs_ hb hHeld.2.2.2.2.2.2.2.2.2.1; have HS10_ := hs_ hb hHeld.2.2.2.2.2.2.2.2.2.2.1; have HS11_ := hs_ hb hHeld.2.2.2.2.2.2.2.2.2.2.2.1; have HS12_ := hs_ hb hHeld.2.2.2.2.2.2.2.2.2.2.2.2.1; have HS13_ := hs_ hb hHeld.2.2.2.2.2.2.2.2.2.2.2.2.2.1; have HS14_ := hs_ hb hHeld.2.2.2.2.2.2.2.2.2.2.2.2.2.2.1; have HS15_ := hs_ hb hHeld.2.2.2.2.2.2.2.2.2.2.2.2.2.2.2.1; have HS16_ := hs_ hb hHeld.2.2.2.2.2.2.2.2.2.2.2.2.2.2.2.2.1; have HS17_ := hs_ hb hHeld.2.2.2.2.2.2.2.2.2.2.2.2.2.2.2.2.2.1; have HS18_ := hs_ hb hHeld.2.2.2.2.2.2.2.2.2.2.2.2.2.2.2.2.2.2.1; have HS19_ := hs_ hb hHeld.2.2.2.2.2.2.2.2.2.2.2.2.2.2.2.2.2.2.2.1; have HS20_ := hs_ hb hHeld.2.2.2.2.2.2.2.2.2.2.2.2.2.2.2.2.2.2.2.2
          refine ⟨_, rfl, ?_⟩
          replace HO_0 := Vb HO_0 hb
          replace HO_6 := Nb HO_6 hb
          replace HL152_5 := Vb HL152_5 hb
          replace HL159_5 := Vb HL159_5 hb
          replace BK144 := kf BK144 hb
          replace BK145 := kf BK145 hb
          replace BK146 := kf BK146 hb
          replace HR152_5 := Cb HR152_5 hb
          replace HR159_5 := Cb HR159_5 hb
          replace HB := bs HB hb
          (try clear hb)
          (try clear hb2)
          (try clear hk)
          (try clear hi)
          refine hK.out _ _ ⟨(blk_cell BK144.out 0).trans rfl, (blk_cell BK144.out 1).trans rfl, (blk_cell BK144.out 2).trans rfl, HS3_, HS4_, HS5_, HS6_, HS7_, HS8_, HS9_, HS10_, HS11_, HS12_, HS13_, HS14_, HS15_, HS16_, HS17_, HS18_, HS19_, HS20_⟩ (fun hHeld => ?_)
          clear hK K
          refine norm_ (a' := ?_) ?_ ?_
          rotate_left
          ·show Act.put _ (some 43) _ = _
           simp only [Act.put, List.setIfInBounds_toArray, List.set_cons_zero, List.set_cons_succ, i64_w, i32_w]
           rfl
          refine pu_ (i := 15) (N := some 44) b5_41 HT_ ?_
          refine done_ (done_of HT_.out KR) ?_
          try go_wp2
          go_roundg k2
          case measure => have := HJ2.out; have := HK2.out; omega
          case rel => exact ⟨(x6_2), (wrap64 (x7_2 + 1)), (by first | rfl | (simp; done) | (simp [*]; done)), H', ⟨by have := HJ2.out; have := HK2.out; omega⟩, ⟨PV HO_0⟩, ⟨PN HO_6⟩, ⟨PK BK144⟩, ⟨PK BK145⟩, ⟨PK BK146⟩, ⟨PB⟩⟩
        ·rw [if_neg c31] at H
         have c31b0 : (t153 == t156 && (t154 == t157 && (t155 == t158))) = false := by simpa using c31
         (try (have c31b1 : decide (t153 = t156 && (t154 == t157 && (t155 == t158))) = false := by simpa using c31))
         (try (have c31b2 : (t153 == t156 && (t154 == t157 && (t155 == t158))) = false := by simpa using c31))
         (try (have c31b3 : ¬ (t153 = t156 && (t154 == t157 && (t155 == t158))) := by simpa using c31))
         clear c31
         have H' := Aside0.mk H
         clear H
         try go_wp2
         replace HO_0 := ak (Kd.V_drew HO_0.out)
         replace HO_6 := ak (Kd.N_drew HO_6.out)
         replace BK144 := ak (blk_drew BK144.out)
         replace BK145 := ak (blk_drew BK145.out)
         replace BK146 := ak (blk_drew BK146.out)
         replace HB := ak (below_drew1 HB.out)
         have p152 : 0 ≤ (x7_2 : Int) := of_decide_eq_true (by first | (with_reducible assumption) | assumption)
         have q152 : x7_2 < (l0.length : Int) := of_decide_eq_true (by first | (with_reducible assumption) | assumption)
         obtain ⟨ad152, A152_5, c152_5, e152, hx152_0, hx152_1, hx152_2, hx152_3, hx152_4, hx152_5, hx152_6, hx152_7, hx152_8, hl152_5, hi152_5⟩ := at_T40 (Kd.V_reads' HO_0.out).2.2 x7_2 p152 q152
         cases e152
         obtain ⟨ce152, hce152, hMe152, hcc152⟩ := Kd.V_get HO_0.out z40 x7_2 p152 (by first | exact q152 | exact of_decide_eq_true (by first | (with_reducible assumption) | assumption) | (have e_ := (Kd.V_reads' HO_0.out).1; omega))
         obtain ⟨ua152_5, uc152_5, rfl, ul152_5, ge152_5⟩ := k40_openF hMe152
         have hv152_5 := hcc152 5 _ rfl
         rw [add_field _ _ 5 (by omega)] at hv152_5
         replace hv152_5 := Option.some.inj (hv152_5.symm.trans hx152_5)
         injection hv152_5 with hva_ hvn_ hvc_
         rw [hva_] at ge152_5
         rw [hvc_] at ul152_5
         have HL152_5 := ak (show Kd.V (Kd.int .i64) 3 _ w.heap.size _ _ ((rd_T40 l0 x7_2).f2.f1) from Kd.V_mk ul152_5 ge152_5)
         clear hva_ hvn_ hvc_ ge152_5 ul152_5
         clear hcc152 hce152
         have HR152_5 := Aside0.mk hi152_5
         have HC152_5 := Aside0.mk hl152_5
         clear hi152_5 hl152_5
         replace p152 := eq_true p152
         replace q152 := eq_true q152
         refine start_ (n := 16) (S := fun w' => w'.cell? ⟨gb144, 0, none⟩ = some (.int .i64 a1_0) ∧ w'.cell? ⟨gb144, 1, none⟩ = some (.int .i64 a1_1) ∧ w'.cell? ⟨gb144, 2, none⟩ = some (.int .i64 a1_2) ∧ w'.cell? (ad152.add ((x7_2).toNat * 9)) = some (.int .i64 ((rd_T40 l0 x7_2).f0.f0)) ∧ w'.cell? ⟨(ad152.add ((x7_2).toNat * 9)).block, (ad152.add ((x7_2).toNat * 9)).off + 1, none⟩ = some (.int .i64 ((rd_T40 l0 x7_2).f0.f1)) ∧ w'.cell? ⟨(ad152.add ((x7_2).toNat * 9)).block, (ad152.add ((x7_2).toNat * 9)).off + 2, none⟩ = some (.int .i64 ((rd_T40 l0 x7_2).f0.f2)) ∧ w'.cell? ⟨(ad152.add ((x7_2).toNat * 9)).block, (ad152.add ((x7_2).toNat * 9)).off + 3, none⟩ = some (.int .i64 ((rd_T40 l0 x7_2).f1)) ∧ w'.cell? ⟨(ad152.add ((x7_2).toNat * 9)).block, (ad152.add ((x7_2).toNat * 9)).off + 4, none⟩ = some (.int .i64 ((rd_T40 l0 x7_2).f2.f0)) ∧ w'.cell? ⟨(ad152.add ((x7_2).toNat * 9)).block, (ad152.add ((x7_2).toNat * 9)).off + 5, none⟩ = some (.slice A152_5 ((rd_T40 l0 x7_2).f2.f1).length c152_5) ∧ w'.cell? ⟨(ad152.add ((x7_2).toNat * 9)).block, (ad152.add ((x7_2).toNat * 9)).off + 6, none⟩ = some (.int .i64 ((rd_T40 l0 x7_2).f2.f2.f0)) ∧ w'.cell? ⟨(ad152.add ((x7_2).toNat * 9)).block, (ad152.add ((x7_2).toNat * 9)).off + 7, none⟩ = some (.int .i64 ((rd_T40 l0 x7_2).f2.f2.f1)) ∧ w'.cell? ⟨(ad152.add ((x7_2).toNat * 9)).block, (ad152.add ((x7_2).toNat * 9)).off + 8, none⟩ = some (.int .i64 ((rd_T40 l0 x7_2).f2.f2.f2))) (ds := []) b5_57 KR rfl rfl ⟨(blk_cell BK144.out 0).trans rfl, (blk_cell BK144.out 1).trans rfl, (blk_cell BK144.out 2).trans rfl, hx152_0, hx152_1, hx152_2, hx152_3, hx152_4, hx152_5, hx152_6, hx152_7, hx152_8⟩ (fun hHeld => ?_); refine with_tabW spec_LearnForm.tab8 spec_LearnForm.bits8 (fun HT_ HW_ => ?_)
         generalize wr.drew = w44 at HO_0 HO_6 BK144 BK145 BK146 HB HL152_5 HR152_5 hx152_0 hx152_1 hx152_2 hx152_3 hx152_4 hx152_5 hx152_6 hx152_7 hx152_8 hHeld ⊢
         refine pu_ (i := 0) (N := some 29) b5_56 HT_ ?_
         refine pu_ (i := 1) (N := some 30) b5_55 HT_ ?_
         refine pu_ (i := 2) (N := some 31) b5_54 HT_ ?_
         refine pu_ (i := 3) (N := some 32) b5_53 HT_ ?_
         refine tk_ (i := 4) (N := some 33) b5_52 rfl rfl HT_ HW_ hHeld ?_
         refine take_ (i := 6) (N := some 35) (v := ?_) (a' := ?_) b5_51 rfl rfl (take_ofW HT_.out HW_.out KR) (fun _ _ _ h => h) (Or.inl ⟨by rfl, ?_⟩) hHeld ?_ ?_
         rotate_left
         ·rintro w' ⟨s0, s1, s2, s3, s4, s5, s6, s7, s8, s9, s10, s11⟩
          go_simp
          with_reducible rfl
         rotate_left
         ·simp only [Act.put, List.setIfInBounds_toArray, List.set_cons_zero, List.set_cons_succ, i64_w, i32_w]
          rfl
         refine one_ (i := 5) (N := some 34) b5_50 rfl rfl (one_of HT_.out KR) (by decide) (fun K hK => ?_)
         refine goes_ Try.func109 KR rfl #[.agg #[.int .i64 ((rd_T40 l0 x7_2).f0.f0), .int .i64 ((rd_T40 l0 x7_2).f0.f1), .int .i64 ((rd_T40 l0 x7_2).f0.f2)]] (by rfl) rfl rfl AR ?_
         with_reducible refine (spec_WithoutQuery.calls ((rd_T40 l0 x7_2).f0.f0) ((rd_T40 l0 x7_2).f0.f1) ((rd_T40 l0 x7_2).f0.f2) t153 t154 t155 _ A29.out).mono ?_
         rintro e w45 ⟨rfl, hb⟩
         have HS3_ := hs_ hb hHeld.2.2.2.1; have HS4_ := hs_ hb hHeld.2.2.2.2.1; have HS5_ := hs_ hb hHeld.2.2.2.2.2.1; have HS6_ := hs_ hb hHeld.2.2.2.2.2.2.1; have HS7_ := hs_ hb hHeld.2.2.2.2.2.2.2.1; have HS8_ := hs_ hb hHeld.2.2.2.2.2.2.2.2.1; have HS9_ := hs_ hb hHeld.2.2.2.2.2.2.2.2.2.1; have HS10_ := hs_ hb hHeld.2.2.2.2.2.2.2.2.2.2.1; have HS11_ := hs_ hb hHeld.2.2.2.2.2.2.2.2.2.2.2
         refine ⟨_, rfl, ?_⟩
         replace HO_0 := Vb HO_0 hb
         replace HO_6 := Nb HO_6 hb
         replace HL152_5 := Vb HL152_5 hb
         replace BK144 := kf BK144 hb
         replace BK145 := kf BK145 hb
         replace BK146 := kf BK146 hb
         replace HR152_5 := Cb HR152_5 hb
         replace HB := bs HB hb
         (try clear hb)
         (try clear hb2)
         (try clear hk)
         (try clear hi)
         refine hK.out _ _ ⟨(blk_cell BK144.out 0).trans rfl, (blk_cell BK144.out 1).trans rfl, (blk_cell BK144.out 2).trans rfl, HS3_, HS4_, HS5_, HS6_, HS7_, HS8_, HS9_, HS10_, HS11_⟩ (fun hHeld => ?_)
         clear hK K
         refine norm_ (a' := ?_) ?_ ?_
         rotate_left
         ·show Act.put _ (some 34) _ = _
          simp only [Act.put, List.setIfInBounds_toArray, List.set_cons_zero, List.set_cons_succ, i64_w, i32_w]
          rfl
         refine one_ (i := 7) (N := some 36) b5_49 rfl rfl (one_of HT_.out KR) (by decide) (fun K hK => ?_)
         refine goes_ Try.func109 KR rfl #[.agg #[.int .i64 a1_0, .int .i64 a1_1, .int .i64 a1_2]] (by rfl) rfl rfl AR ?_
         with_reducible refine (spec_WithoutQuery.calls a1_0 a1_1 a1_2 t156 t157 t158 _ A30.out).mono ?_
         rintro e w46 ⟨rfl, hb⟩
         have HS3_ := hs_ hb hHeld.2.2.2.1; have HS4_ := hs_ hb hHeld.2.2.2.2.1; have HS5_ := hs_ hb hHeld.2.2.2.2.2.1; have HS6_ := hs_ hb hHeld.2.2.2.2.2.2.1; have HS7_ := hs_ hb hHeld.2.2.2.2.2.2.2.1; have HS8_ := hs_ hb hHeld.2.2.2.2.2.2.2.2.1; have HS9_ := hs_ hb hHeld.2.2.2.2.2.2.2.2.2.1; have HS10_ := hs_ hb hHeld.2.2.2.2.2.2.2.2.2.2.1; have HS11_ := hs_ hb hHeld.2.2.2.2.2.2.2.2.2.2.2
         refine ⟨_, rfl, ?_⟩
         replace HO_0 := Vb HO_0 hb
         replace HO_6 := Nb HO_6 hb
         replace HL152_5 := Vb HL152_5 hb
         replace BK144 := kf BK144 hb
         replace BK145 := kf BK145 hb
         replace BK146 := kf BK146 hb
         replace HR152_5 := Cb HR152_5 hb
         replace HB := bs HB hb
         (try clear hb)
         (try clear hb2)
         (try clear hk)
         (try clear hi)
         refine hK.out _ _ ⟨(blk_cell BK144.out 0).trans rfl, (blk_cell BK144.out 1).trans rfl, (blk_cell BK144.out 2).trans rfl, HS3_, HS4_, HS5_, HS6_, HS7_, HS8_, HS9_, HS10_, HS11_⟩ (fun hHeld => ?_)
         clear hK K
         refine norm_ (a' := ?_) ?_ ?_
         rotate_left
         ·show Act.put _ (some 36) _ = _
          simp only [Act.put, List.setIfInBounds_toArray, List.set_cons_zero, List.set_cons_succ, i64_w, i32_w]
          rfl
         refine pu_ (i := 8) (N := some 37) b5_48 HT_ ?_
         refine pu_ (i := 9) (N := some 38) b5_47 HT_ ?_
         refine un_ (i := 10) (N := some 39) b5_46 HT_ ?_
         refine un_ (i := 11) (N := some 40) b5_45 HT_ ?_
         refine un_ (i := 12) (N := some 41) b5_44 HT_ ?_
         refine un_ (i := 13) (N := some 42) b5_43 HT_ ?_
         refine un_ (i := 14) (N := some 43) b5_42 HT_ ?_
         refine pu_ (i := 15) (N := some 44) b5_41 HT_ ?_
         refine done_ (done_of HT_.out KR) ?_
         try go_wp2
         go_roundg k2
         case measure => have := HJ2.out; have := HK2.out; omega
         case rel => exact ⟨(x6_2), (wrap64 (x7_2 + 1)), (by first | rfl | (simp; done) | (simp [*]; done)), H', ⟨by have := HJ2.out; have := HK2.out; omega⟩, ⟨PV HO_0⟩, ⟨PN HO_6⟩, ⟨PK BK144⟩, ⟨PK BK145⟩, ⟨PK BK146⟩, ⟨PB⟩⟩
       ·rw [if_neg c28] at H
        exact absurd H (by simp)
      ·rw [if_neg c27] at H
       have c27b0 : decide (x7_2 < (l0.length : Int)) = false := decide_eq_false c27
       clear c27
       by_cases c47 : (x6_2.length : Int) = 0
       ·rw [if_pos c47] at H
        have c47b0 : ((x6_2.length : Int) == 0) = true := beq_iff_eq.mpr c47
        have c47b1 : ((x6_2.length : Int) != 0) = false := bne_eq_false_iff_eq.mpr c47
        clear c47
        simp only [Option.some.injEq, Prod.mk.injEq] at H
        obtain ⟨rfl, rfl, rfl, rfl⟩ := H
        obtain ⟨Ao48, co48, eo48⟩ := Kd.N_slice HO_6.out
        subst eo48
        have hnb49 := NB146_144.out
        have hnc49 := NB144_146.out
        have hnb50 := NB146_145.out
        have hnc50 := NB145_146.out
        obtain ⟨hcz51_0, hcz51_1, hcz51_2, hcz51_3, hfz51_0, hfz51_1, hfz51_2, hfz51_3⟩ := bc4 BK146
        have hnb52 := NB145_144.out
        have hnc52 := NB144_145.out
        obtain ⟨hcz53_0, hcz53_1, hcz53_2, hcz53_3, hfz53_0, hfz53_1, hfz53_2, hfz53_3⟩ := bc4 BK145
        go_wp2
        refine bodyPost_ret (results_cell_row rfl _ _ gb145 85 #[.int .i64 0, .int .i64 0, .int .i64 (x6_2.length : Int), .bool true] (0, 0) _ rfl (PX BK145) Try.underlying85 rfl KR) rfl ?_
        exact ⟨RT, PB⟩
       ·rw [if_neg c47] at H
        have c47b0 : ((x6_2.length : Int) == 0) = false := beq_eq_false_iff_ne.mpr c47
        have c47b1 : ((x6_2.length : Int) != 0) = true := bne_iff_ne.mpr c47
        have c47b2 : ¬ (x6_2 = []) := fun h_ => c47 (by rw [h_]; rfl)
        by_cases c54 : 0 < (x6_2.length : Int)
        ·rw [if_pos c54] at H
         have c54b0 : decide (0 < (x6_2.length : Int)) = true := decide_eq_true c54
         have c54b1 : decide (0 < x6_2.length) = true := decide_eq_true (by omega)
         clear c54
         replace H := Option.bind_eq_some_iff.mp H
         obtain ⟨t166, A550, H⟩ := H
         replace H : (spec_LearnForm.l1 k2 x6_2 1 t166 0 (x6_2.length : Int) true) = some (r1, r2, r3, r4) := H
         have A55 := Aside0.mk A550
         clear A550
         have HC56 := Aside0.mk H
         clear H
         obtain ⟨Ao57, co57, eo57⟩ := Kd.N_slice HO_6.out
         subst eo57
         have hnb58 := NB146_144.out
         have hnc58 := NB144_146.out
         have hnb59 := NB146_145.out
         have hnc59 := NB145_146.out
         obtain ⟨hcz60_0, hcz60_1, hcz60_2, hcz60_3, hfz60_0, hfz60_1, hfz60_2, hfz60_3⟩ := bc4 BK146
         go_upto_block 2 with (first | ((with_reducible refine gate_store (t := 3) (p := 54) rfl ?_); refine store_event (t := 3) (p := 54) (v := ?vo_w61) (w1 := (wr.setCell ⟨gb146, 2, none⟩ (.int .i64 (x6_2.length : Int)))) ?hg ?ho ?hn ?hr ?_; (case ho => rfl); (case hg => rfl); (case hn => rfl); (case hr => first | (go_simp; done) | (go_simp; rfl)); intro w61 hw; replace HO_0 : Aside0 (Kd.V k40 40 w61 w.heap.size (fun k_ => (P0_ k_ ∨ w.heap.size ≤ k_) ∧ some k_ ≠ (.slice Ao57 x6_2.length co57 : Value).ownBlock ∧ k_ ≠ gb144 ∧ k_ ≠ gb145 ∧ k_ ≠ gb146) (.slice A0 l0.length c0) l0) := ⟨(by rw [hw]; exact (VX (Kd.V_mono HO_0.out (fun k_ hk => (⟨hk, hk.2.2.2.2⟩ : _ ∧ k_ ≠ gb146))) (fun _ hk => ⟨hk.1.1, ⟨hk.1.2.1, ⟨hk.1.2.2.1, ⟨hk.1.2.2.2.1, hk.1.2.2.2.2⟩⟩⟩⟩)))⟩; replace HO_6 : Aside0 (Kd.N k40 40 w61 w.heap.size (fun k_ => (P0_ k_ ∨ w.heap.size ≤ k_) ∧ k_ ≠ gb144 ∧ k_ ≠ gb145 ∧ k_ ≠ gb146) (.slice Ao57 x6_2.length co57) x6_2) := ⟨(by rw [hw]; exact (NX (Kd.N_mono HO_6.out (fun k_ hk => (⟨hk, hk.2.2.2⟩ : _ ∧ k_ ≠ gb146))) (fun _ hk => ⟨hk.1.1, ⟨hk.1.2.1, ⟨hk.1.2.2.1, hk.1.2.2.2⟩⟩⟩)))⟩; replace BK144 : Aside0 (w61.heap[gb144]? = some (.cells #[.int .i64 a1_0, .int .i64 a1_1, .int .i64 a1_2] 26 (0, 0))) := ⟨(by rw [hw]; exact (PF BK144))⟩; replace BK145 : Aside0 (w61.heap[gb145]? = some (.cells #[.int .i64 0, .int .i64 0, .int .i64 0, .bool false] 85 (0, 0))) := ⟨(by rw [hw]; exact (PF BK145))⟩; replace BK146 : Aside0 (w61.heap[gb146]? = some (.cells #[.int .i64 0, .int .i64 0, .int .i64 (x6_2.length : Int), .bool false] 85 (0, 0))) := ⟨(by rw [hw]; exact (PX BK146))⟩; replace HB : Aside0 (Below w.heap.size w w61) := ⟨(by rw [hw]; exact PB)⟩; clear hw; obtain ⟨hcz62_0, hcz62_1, hcz62_2, hcz62_3, hfz62_0, hfz62_1, hfz62_2, hfz62_3⟩ := bc4 BK146) | ((with_reducible refine gate_store (t := 4) (p := 55) rfl ?_); refine store_event (t := 4) (p := 55) (v := ?vo_w63) (w1 := (w61.setCell ⟨gb146, 3, none⟩ (.bool true))) ?hg ?ho ?hn ?hr ?_; (case ho => rfl); (case hg => rfl); (case hn => rfl); (case hr => first | (go_simp; done) | (go_simp; rfl)); intro w63 hw; replace HO_0 : Aside0 (Kd.V k40 40 w63 w.heap.size (fun k_ => (P0_ k_ ∨ w.heap.size ≤ k_) ∧ some k_ ≠ (.slice Ao57 x6_2.length co57 : Value).ownBlock ∧ k_ ≠ gb144 ∧ k_ ≠ gb145 ∧ k_ ≠ gb146) (.slice A0 l0.length c0) l0) := ⟨(by rw [hw]; exact (VX (Kd.V_mono HO_0.out (fun k_ hk => (⟨hk, hk.2.2.2.2⟩ : _ ∧ k_ ≠ gb146))) (fun _ hk => ⟨hk.1.1, ⟨hk.1.2.1, ⟨hk.1.2.2.1, ⟨hk.1.2.2.2.1, hk.1.2.2.2.2⟩⟩⟩⟩)))⟩; replace HO_6 : Aside0 (Kd.N k40 40 w63 w.heap.size (fun k_ => (P0_ k_ ∨ w.heap.size ≤ k_) ∧ k_ ≠ gb144 ∧ k_ ≠ gb145 ∧ k_ ≠ gb146) (.slice Ao57 x6_2.length co57) x6_2) := ⟨(by rw [hw]; exact (NX (Kd.N_mono HO_6.out (fun k_ hk => (⟨hk, hk.2.2.2⟩ : _ ∧ k_ ≠ gb146))) (fun _ hk => ⟨hk.1.1, ⟨hk.1.2.1, ⟨hk.1.2.2.1, hk.1.2.2.2⟩⟩⟩)))⟩; replace BK144 : Aside0 (w63.heap[gb144]? = some (.cells #[.int .i64 a1_0, .int .i64 a1_1, .int .i64 a1_2] 26 (0, 0))) := ⟨(by rw [hw]; exact (PF BK144))⟩; replace BK145 : Aside0 (w63.heap[gb145]? = some (.cells #[.int .i64 0, .int .i64 0, .int .i64 0, .bool false] 85 (0, 0))) := ⟨(by rw [hw]; exact (PF BK145))⟩; replace BK146 : Aside0 (w63.heap[gb146]? = some (.cells #[.int .i64 0, .int .i64 0, .int .i64 (x6_2.length : Int), .bool true] 85 (0, 0))) := ⟨(by rw [hw]; exact (PX BK146))⟩; replace HB : Aside0 (Below w.heap.size w w63) := ⟨(by rw [hw]; exact PB)⟩; clear hw; have p165 : 0 ≤ (0 : Int) := (by omega); have q165 : 0 < (x6_2.length : Int) := of_decide_eq_true (by first | (with_reducible assumption) | assumption); obtain ⟨ad165, A165_5, c165_5, e165, hx165_0, hx165_1, hx165_2, hx165_3, hx165_4, hx165_5, hx165_6, hx165_7, hx165_8, hl165_5, hi165_5⟩ := at_T40 (Kd.N_reads' HO_6.out).2.2 0 p165 q165; cases e165; obtain ⟨ce165, hce165, hMe165, hcc165⟩ := Kd.N_get HO_6.out z40 0 p165 (by first | exact q165 | exact of_decide_eq_true (by first | (with_reducible assumption) | assumption) | (have e_ := (Kd.N_reads' HO_6.out).1; omega)); obtain ⟨ua165_5, uc165_5, rfl, ul165_5, ge165_5⟩ := k40_openF hMe165; have hv165_5 := hcc165 5 _ rfl; rw [add_field _ _ 5 (by omega)] at hv165_5; replace hv165_5 := Option.some.inj (hv165_5.symm.trans hx165_5); injection hv165_5 with hva_ hvn_ hvc_; rw [hva_] at ge165_5; rw [hvc_] at ul165_5; have HL165_5 := ak (show Kd.V (Kd.int .i64) 3 _ w.heap.size _ _ ((rd_T40 x6_2 0).f2.f1) from Kd.V_mk ul165_5 ge165_5); clear hva_ hvn_ hvc_ ge165_5 ul165_5; clear hcc165 hce165; have qi165 : (0 < x6_2.length) = True := eq_true (by omega); (try rw [show ((0 : Int)).toNat = 0 from rfl] at hx165_0); (try rw [show 0 * 9 = 0 from rfl] at hx165_0); (try rw [Addr.add_zero'] at hx165_0); (try rw [show ((0 : Int)).toNat = 0 from rfl] at hx165_1); (try rw [show 0 * 9 = 0 from rfl] at hx165_1); (try rw [Addr.add_zero'] at hx165_1); (try rw [show ((0 : Int)).toNat = 0 from rfl] at hx165_2); (try rw [show 0 * 9 = 0 from rfl] at hx165_2); (try rw [Addr.add_zero'] at hx165_2); (try rw [show ((0 : Int)).toNat = 0 from rfl] at hx165_3); (try rw [show 0 * 9 = 0 from rfl] at hx165_3); (try rw [Addr.add_zero'] at hx165_3); (try rw [show ((0 : Int)).toNat = 0 from rfl] at hx165_4); (try rw [show 0 * 9 = 0 from rfl] at hx165_4); (try rw [Addr.add_zero'] at hx165_4); (try rw [show ((0 : Int)).toNat = 0 from rfl] at hx165_5); (try rw [show 0 * 9 = 0 from rfl] at hx165_5); (try rw [Addr.add_zero'] at hx165_5); (try rw [show ((0 : Int)).toNat = 0 from rfl] at hx165_6); (try rw [show 0 * 9 = 0 from rfl] at hx165_6); (try rw [Addr.add_zero'] at hx165_6); (try rw [show ((0 : Int)).toNat = 0 from rfl] at hx165_7); (try rw [show 0 * 9 = 0 from rfl] at hx165_7); (try rw [Addr.add_zero'] at hx165_7); (try rw [show ((0 : Int)).toNat = 0 from rfl] at hx165_8); (try rw [show 0 * 9 = 0 from rfl] at hx165_8); (try rw [Addr.add_zero'] at hx165_8); have HR165_5 := Aside0.mk hi165_5; have HC165_5 := Aside0.mk hl165_5; clear hi165_5 hl165_5; replace p165 := eq_true p165; replace q165 := eq_true q165) | ((with_reducible refine gate_callee (f := 111) rfl ?_); refine goesL_ (some 64) rfl rfl Try.func111 KR rfl #[.agg #[.int .i64 ((rd_T40 x6_2 0).f2.f0), .slice A165_5 ((rd_T40 x6_2 0).f2.f1).length c165_5, .int .i64 ((rd_T40 x6_2 0).f2.f2.f0), .int .i64 ((rd_T40 x6_2 0).f2.f2.f1), .int .i64 ((rd_T40 x6_2 0).f2.f2.f2)]] rfl AR ?_; (with_reducible refine (spec_ValueOfResource.calls k2 ((rd_T40 x6_2 0).f2.f0) _ _ ((rd_T40 x6_2 0).f2.f1) ((rd_T40 x6_2 0).f2.f2.f0) ((rd_T40 x6_2 0).f2.f2.f1) ((rd_T40 x6_2 0).f2.f2.f2) t166 _ ?side1 ?side2 A55.out).mono ?_); (case side1 => repeat (first | exact (PC HR165_5) | (with_reducible refine Kd.C_alloc ?_ _) | (with_reducible refine Kd.C_drewN ?_ _) | (with_reducible refine Kd.C_drew ?_))); (case side2 => exact HC165_5.out); rintro e w64 ⟨rfl, hb⟩; refine ⟨_, rfl, ?_⟩; replace HO_0 := Vb HO_0 hb; replace HO_6 := Nb HO_6 hb; replace HL165_5 := Vb HL165_5 hb; replace BK144 := kf BK144 hb; replace BK145 := kf BK145 hb; replace BK146 := kf BK146 hb; replace HR165_5 := Cb HR165_5 hb; replace HB := bs HB hb; (try clear hb); (try clear hb2); (try clear hk); (try clear hi); obtain ⟨hcz65_0, hcz65_1, hcz65_2, hcz65_3, hfz65_0, hfz65_1, hfz65_2, hfz65_3⟩ := bc4 BK146))
         (try simp only [Act.put, List.setIfInBounds_toArray, List.set_cons_zero, List.set_cons_succ])
         go_cut [] (fun wc => ∃ (kq : Nat) (x147000_55 : Int) (x147001_55 : Int), Aside0 (spec_LearnForm.j3 kq x6_2 x147000_55 x147001_55 (x6_2.length : Int) true = some (r1, r2, r3, r4)) ∧ Aside0 (kq ≤ k2) ∧ Aside0 (Kd.N k40 40 wc w.heap.size (fun k_ => (P0_ k_ ∨ w.heap.size ≤ k_) ∧ k_ ≠ gb144 ∧ k_ ≠ gb145 ∧ k_ ≠ gb146) (.slice (some ad165) x6_2.length co57) x6_2) ∧ Aside0 (wc.heap[gb144]? = some (.cells #[.int .i64 a1_0, .int .i64 a1_1, .int .i64 a1_2] 26 (0, 0))) ∧ Aside0 (wc.heap[gb145]? = some (.cells #[.int .i64 0, .int .i64 0, .int .i64 0, .bool false] 85 (0, 0))) ∧ Aside0 (wc.heap[gb146]? = some (.cells #[.int .i64 x147000_55, .int .i64 x147001_55, .int .i64 (x6_2.length : Int), .bool true] 85 (0, 0))) ∧ Aside0 (Below w.heap.size w wc))
         case first =>
          have H := HC56.out
          clear HC56
          have H' := Aside0.mk H
          clear H
          go_wp2
          go_loopg [8] k2 (fun kq v8 w' => ∃ (x8_3 : Int) (x147000_3 : Int) (x147001_3 : Int), v8 = .int .i64 x8_3 ∧ Aside0 (spec_LearnForm.l1 kq x6_2 x8_3 x147000_3 x147001_3 (x6_2.length : Int) true = some (r1, r2, r3, r4)) ∧ Aside0 (kq ≤ k2) ∧ Aside0 (Kd.N k40 40 w' w.heap.size (fun k_ => (P0_ k_ ∨ w.heap.size ≤ k_) ∧ k_ ≠ gb144 ∧ k_ ≠ gb145 ∧ k_ ≠ gb146) (.slice (some ad165) x6_2.length co57) x6_2) ∧ Aside0 (w'.heap[gb144]? = some (.cells #[.int .i64 a1_0, .int .i64 a1_1, .int .i64 a1_2] 26 (0, 0))) ∧ Aside0 (w'.heap[gb145]? = some (.cells #[.int .i64 0, .int .i64 0, .int .i64 0, .bool false] 85 (0, 0))) ∧ Aside0 (w'.heap[gb146]? = some (.cells #[.int .i64 x147000_3, .int .i64 x147001_3, .int .i64 (x6_2.length : Int), .bool true] 85 (0, 0))) ∧ Aside0 (Kd.C (Kd.int .i64) w' A165_5 ((rd_T40 x6_2 0).f2.f1).length ((rd_T40 x6_2 0).f2.f1)) ∧ Aside0 (Below w.heap.size w w'))
          case atStart => exact ⟨(1), (t166), (0), (by first | rfl | (simp; done) | (simp [*]; done)), H', ⟨Nat.le_refl _⟩, ⟨NX (Kd.N_mono HO_6.out (fun k_ hk => (⟨hk, hk.2.2.2⟩ : _ ∧ k_ ≠ gb146))) (fun _ hk => ⟨hk.1.1, ⟨hk.1.2.1, ⟨hk.1.2.2.1, hk.1.2.2.2⟩⟩⟩)⟩, ⟨PF BK144⟩, ⟨PF BK145⟩, ⟨PX BK146⟩, ⟨(Kd.V_reads' (VX (Kd.V_mono HL165_5.out (fun k_ hk => (⟨hk, hk.1.2.2.2⟩ : _ ∧ k_ ≠ gb146))) (fun _ h_ => h_.1))).2.2⟩, ⟨PB⟩⟩
          case round =>
           clear H'
           (try clear c1); (try clear p1); (try clear q1); (try clear hx1); (try clear qi1); (try clear c2); (try clear p2); (try clear c3); (try clear c4); (try clear c5); (try clear p6); (try clear c10); (try clear c11); (try clear c15); (try clear p15); (try clear q15); (try clear hx15); (try clear c16); (try clear p16); (try clear q16); (try clear hx16); (try clear qi16); (try clear c27); (try clear c27b0); (try clear c28); (try clear c31); (try clear c31b0); (try clear c31b1); (try clear c31b2); (try clear c47); (try clear c47b0); (try clear c47b1); (try clear c47b2); (try clear c49); (try clear c50); (try clear c52); (try clear c54); (try clear c54b0); (try clear c54b1); (try clear c58); (try clear c59); (try clear p64); (try clear hcz51_0); (try clear hcz51_1); (try clear hcz51_2); (try clear hcz51_3); (try clear hcz53_0); (try clear hcz53_1); (try clear hcz53_2); (try clear hcz53_3); (try clear hcz60_0); (try clear hcz60_1); (try clear hcz60_2); (try clear hcz60_3); (try clear hcz62_0); (try clear hcz62_1); (try clear hcz62_2); (try clear hcz62_3); (try clear hcz65_0); (try clear hcz65_1); (try clear hcz65_2); (try clear hcz65_3); (try clear hfz51_0); (try clear hfz51_1); (try clear hfz51_2); (try clear hfz51_3); (try clear hfz53_0); (try clear hfz53_1); (try clear hfz53_2); (try clear hfz53_3); (try clear hfz60_0); (try clear hfz60_1); (try clear hfz60_2); (try clear hfz60_3); (try clear hfz62_0); (try clear hfz62_1); (try clear hfz62_2); (try clear hfz62_3); (try clear hfz65_0); (try clear hfz65_1); (try clear hfz65_2); (try clear hfz65_3); (try clear hx152_0); (try clear hx152_1); (try clear hx152_2); (try clear hx152_3); (try clear hx152_4); (try clear hx152_5); (try clear hx152_6); (try clear hx152_7); (try clear hx152_8); (try clear hx165_0); (try clear hx165_1); (try clear hx165_2); (try clear hx165_3); (try clear hx165_4); (try clear hx165_5); (try clear hx165_6); (try clear hx165_7); (try clear hx165_8); (try clear p152); (try clear p165); (try clear q152); (try clear q165)
           obtain ⟨x8_3, x147000_3, x147001_3, rfl, HA, HK3, HO_6, BK144, BK145, BK146, HR165_5, HB⟩ := hrel
           cases gk with
           | zero => exact absurd HA.out (by simp [spec_LearnForm.l1])
           | succ k3 =>
            have H := HA.out
            clear HA
            simp only [spec_LearnForm.l1] at H
            by_cases c66 : x8_3 < (x6_2.length : Int)
            ·rw [if_pos c66] at H
             have c66b0 : decide (x8_3 < (x6_2.length : Int)) = true := decide_eq_true c66
             clear c66
             (first | rw [c66b0] | (simp only [i64_w, i32_w]; rw [c66b0]) | skip)
             by_cases c67 : 0 ≤ x8_3
             ·rw [if_pos c67] at H
              have c67b0 : decide (0 ≤ x8_3) = true := decide_eq_true c67
              clear c67
              by_cases c68 : 0 < (x6_2.length : Int)
              ·rw [if_pos c68] at H
               have c68b0 : decide (0 < (x6_2.length : Int)) = true := decide_eq_true c68
               have c68b1 : decide (0 < x6_2.length) = true := decide_eq_true (by omega)
               clear c68
               by_cases c69 : (!(((rd_T40 x6_2 x8_3).f0.f0) == ((rd_T40 x6_2 0).f0.f0)) || (!(((rd_T40 x6_2 x8_3).f0.f1) == ((rd_T40 x6_2 0).f0.f1)) || (!(((rd_T40 x6_2 x8_3).f0.f2) == ((rd_T40 x6_2 0).f0.f2))))) = true
               ·rw [if_pos c69] at H
                have c69b0 : (!(((rd_T40 x6_2 x8_3).f0.f0) == ((rd_T40 x6_2 0).f0.f0)) || (!(((rd_T40 x6_2 x8_3).f0.f1) == ((rd_T40 x6_2 0).f0.f1)) || (!(((rd_T40 x6_2 x8_3).f0.f2) == ((rd_T40 x6_2 0).f0.f2))))) = true := c69
                clear c69
                replace H := Option.bind_eq_some_iff.mp H
                obtain ⟨⟨t171, t172⟩, A700, H⟩ := H
                replace H : (if t171 ≥ 0 then (spec_LearnForm.j3 k3 x6_2 t172 t171 (x6_2.length : Int) true) else (spec_LearnForm.j3 k3 x6_2 x147000_3 x147001_3 (x6_2.length : Int) true)) = some (r1, r2, r3, r4) := H
                have A70 := Aside0.mk A700
                clear A700
                by_cases c71 : t171 ≥ 0
                ·rw [if_pos c71] at H
                 have c71b0 : decide (0 ≤ t171) = true := decide_eq_true c71
                 clear c71
                 have H' := Aside0.mk H
                 clear H
                 try go_wp2
                 replace HO_6 := ak (Kd.N_drew HO_6.out)
                 replace BK144 := ak (blk_drew BK144.out)
                 replace BK145 := ak (blk_drew BK145.out)
                 replace BK146 := ak (blk_drew BK146.out)
                 replace HR165_5 := ak (Kd.C_drew HR165_5.out)
                 replace HB := ak (below_drew1 HB.out)
                 have p167 : 0 ≤ (x8_3 : Int) := of_decide_eq_true (by first | (with_reducible assumption) | assumption)
                 have q167 : x8_3 < (x6_2.length : Int) := of_decide_eq_true (by first | (with_reducible assumption) | assumption)
                 obtain ⟨ad167, A167_5, c167_5, e167, hx167_0, hx167_1, hx167_2, hx167_3, hx167_4, hx167_5, hx167_6, hx167_7, hx167_8, hl167_5, hi167_5⟩ := at_T40 (Kd.N_reads' HO_6.out).2.2 x8_3 p167 q167
                 obtain rfl : ad165 = ad167 := (by injection e167)
                 obtain ⟨ce167, hce167, hMe167, hcc167⟩ := Kd.N_get HO_6.out z40 x8_3 p167 (by first | exact q167 | exact of_decide_eq_true (by first | (with_reducible assumption) | assumption) | (have e_ := (Kd.N_reads' HO_6.out).1; omega))
                 obtain ⟨ua167_5, uc167_5, rfl, ul167_5, ge167_5⟩ := k40_openF hMe167
                 have hv167_5 := hcc167 5 _ rfl
                 rw [add_field _ _ 5 (by omega)] at hv167_5
                 replace hv167_5 := Option.some.inj (hv167_5.symm.trans hx167_5)
                 injection hv167_5 with hva_ hvn_ hvc_
                 rw [hva_] at ge167_5
                 rw [hvc_] at ul167_5
                 have HL167_5 := ak (show Kd.V (Kd.int .i64) 3 _ w.heap.size _ _ ((rd_T40 x6_2 x8_3).f2.f1) from Kd.V_mk ul167_5 ge167_5)
                 clear hva_ hvn_ hvc_ ge167_5 ul167_5
                 clear hcc167 hce167
                 have HR167_5 := Aside0.mk hi167_5
                 have HC167_5 := Aside0.mk hl167_5
                 clear hi167_5 hl167_5
                 replace p167 := eq_true p167
                 replace q167 := eq_true q167
                 have p168 : 0 ≤ (0 : Int) := (by omega)
                 have q168 : 0 < (x6_2.length : Int) := of_decide_eq_true (by first | (with_reducible assumption) | assumption)
                 obtain ⟨ad168, A168_5, c168_5, e168, hx168_0, hx168_1, hx168_2, hx168_3, hx168_4, hx168_5, hx168_6, hx168_7, hx168_8, hl168_5, hi168_5⟩ := at_T40 (Kd.N_reads' HO_6.out).2.2 0 p168 q168
                 obtain rfl : ad165 = ad168 := (by injection e168)
                 obtain ⟨ce168, hce168, hMe168, hcc168⟩ := Kd.N_get HO_6.out z40 0 p168 (by first | exact q168 | exact of_decide_eq_true (by first | (with_reducible assumption) | assumption) | (have e_ := (Kd.N_reads' HO_6.out).1; omega))
                 obtain ⟨ua168_5, uc168_5, rfl, ul168_5, ge168_5⟩ := k40_openF hMe168
                 have hv168_5 := hcc168 5 _ rfl
                 rw [add_field _ _ 5 (by omega)] at hv168_5
                 replace hv168_5 := Option.some.inj (hv168_5.symm.trans hx168_5)
                 injection hv168_5 with hva_ hvn_ hvc_
                 rw [hva_] at ge168_5
                 rw [hvc_] at ul168_5
                 have HL168_5 := ak (show Kd.V (Kd.int .i64) 3 _ w.heap.size _ _ ((rd_T40 x6_2 0).f2.f1) from Kd.V_mk ul168_5 ge168_5)
                 clear hva_ hvn_ hvc_ ge168_5 ul168_5
                 clear hcc168 hce168
                 have qi168 : (0 < x6_2.length) = True := eq_true (by omega)
                 (try rw [show ((0 : Int)).toNat = 0 from rfl] at hx168_0)
                 (try rw [show 0 * 9 = 0 from rfl] at hx168_0)
                 (try rw [Addr.add_zero'] at hx168_0)
                 (try rw [show ((0 : Int)).toNat = 0 from rfl] at hx168_1)
                 (try rw [show 0 * 9 = 0 from rfl] at hx168_1)
                 (try rw [Addr.add_zero'] at hx168_1)
                 (try rw [show ((0 : Int)).toNat = 0 from rfl] at hx168_2)
                 (try rw [show 0 * 9 = 0 from rfl] at hx168_2)
                 (try rw [Addr.add_zero'] at hx168_2)
                 (try rw [show ((0 : Int)).toNat = 0 from rfl] at hx168_3)
                 (try rw [show 0 * 9 = 0 from rfl] at hx168_3)
                 (try rw [Addr.add_zero'] at hx168_3)
                 (try rw [show ((0 : Int)).toNat = 0 from rfl] at hx168_4)
                 (try rw [show 0 * 9 = 0 from rfl] at hx168_4)
                 (try rw [Addr.add_zero'] at hx168_4)
                 (try rw [show ((0 : Int)).toNat = 0 from rfl] at hx168_5)
                 (try rw [show 0 * 9 = 0 from rfl] at hx168_5)
                 (try rw [Addr.add_zero'] at hx168_5)
                 (try rw [show ((0 : Int)).toNat = 0 from rfl] at hx168_6)
                 (try rw [show 0 * 9 = 0 from rfl] at hx168_6)
                 (try rw [Addr.add_zero'] at hx168_6)
                 (try rw [show ((0 : Int)).toNat = 0 from rfl] at hx168_7)
                 (try rw [show 0 * 9 = 0 from rfl] at hx168_7)
                 (try rw [Addr.add_zero'] at hx168_7)
                 (try rw [show ((0 : Int)).toNat = 0 from rfl] at hx168_8)
                 (try rw [show 0 * 9 = 0 from rfl] at hx168_8)
                 (try rw [Addr.add_zero'] at hx168_8)
                 have HR168_5 := Aside0.mk hi168_5
                 have HC168_5 := Aside0.mk hl168_5
                 clear hi168_5 hl168_5
                 replace p168 := eq_true p168
                 replace q168 := eq_true q168
                 refine start_ (n := 10) (S := fun w' => w'.cell? (ad165.add ((x8_3).toNat * 9)) = some (.int .i64 ((rd_T40 x6_2 x8_3).f0.f0)) ∧ w'.cell? ⟨(ad165.add ((x8_3).toNat * 9)).block, (ad165.add ((x8_3).toNat * 9)).off + 1, none⟩ = some (.int .i64 ((rd_T40 x6_2 x8_3).f0.f1)) ∧ w'.cell? ⟨(ad165.add ((x8_3).toNat * 9)).block, (ad165.add ((x8_3).toNat * 9)).off + 2, none⟩ = some (.int .i64 ((rd_T40 x6_2 x8_3).f0.f2)) ∧ w'.cell? ⟨(ad165.add ((x8_3).toNat * 9)).block, (ad165.add ((x8_3).toNat * 9)).off + 3, none⟩ = some (.int .i64 ((rd_T40 x6_2 x8_3).f1)) ∧ w'.cell? ⟨(ad165.add ((x8_3).toNat * 9)).block, (ad165.add ((x8_3).toNat * 9)).off + 4, none⟩ = some (.int .i64 ((rd_T40 x6_2 x8_3).f2.f0)) ∧ w'.cell? ⟨(ad165.add ((x8_3).toNat * 9)).block, (ad165.add ((x8_3).toNat * 9)).off + 5, none⟩ = some (.slice A167_5 ((rd_T40 x6_2 x8_3).f2.f1).length c167_5) ∧ w'.cell? ⟨(ad165.add ((x8_3).toNat * 9)).block, (ad165.add ((x8_3).toNat * 9)).off + 6, none⟩ = some (.int .i64 ((rd_T40 x6_2 x8_3).f2.f2.f0)) ∧ w'.cell? ⟨(ad165.add ((x8_3).toNat * 9)).block, (ad165.add ((x8_3).toNat * 9)).off + 7, none⟩ = some (.int .i64 ((rd_T40 x6_2 x8_3).f2.f2.f1)) ∧ w'.cell? ⟨(ad165.add ((x8_3).toNat * 9)).block, (ad165.add ((x8_3).toNat * 9)).off + 8, none⟩ = some (.int .i64 ((rd_T40 x6_2 x8_3).f2.f2.f2)) ∧ w'.cell? ad165 = some (.int .i64 ((rd_T40 x6_2 0).f0.f0)) ∧ w'.cell? ⟨ad165.block, ad165.off + 1, none⟩ = some (.int .i64 ((rd_T40 x6_2 0).f0.f1)) ∧ w'.cell? ⟨ad165.block, ad165.off + 2, none⟩ = some (.int .i64 ((rd_T40 x6_2 0).f0.f2)) ∧ w'.cell? ⟨ad165.block, ad165.off + 3, none⟩ = some (.int .i64 ((rd_T40 x6_2 0).f1)) ∧ w'.cell? ⟨ad165.block, ad165.off + 4, none⟩ = some (.int .i64 ((rd_T40 x6_2 0).f2.f0)) ∧ w'.cell? ⟨ad165.block, ad165.off + 5, none⟩ = some (.slice A168_5 ((rd_T40 x6_2 0).f2.f1).length c168_5) ∧ w'.cell? ⟨ad165.block, ad165.off + 6, none⟩ = some (.int .i64 ((rd_T40 x6_2 0).f2.f2.f0)) ∧ w'.cell? ⟨ad165.block, ad165.off + 7, none⟩ = some (.int .i64 ((rd_T40 x6_2 0).f2.f2.f1)) ∧ w'.cell? ⟨ad165.block, ad165.off + 8, none⟩ = some (.int .i64 ((rd_T40 x6_2 0).f2.f2.f2))) (ds := []) b5_10 KR rfl rfl ⟨hx167_0, hx167_1, hx167_2, hx167_3, hx167_4, hx167_5, hx167_6, hx167_7, hx167_8, hx168_0, hx168_1, hx168_2, hx168_3, hx168_4, hx168_5, hx168_6, hx168_7, hx168_8⟩ (fun hHeld => ?_); refine with_tabW spec_LearnForm.tab18 spec_LearnForm.bits18 (fun HT_ HW_ => ?_)
                 generalize wr.drew = w72 at HO_6 BK144 BK145 BK146 HR165_5 HB HL167_5 HL168_5 HR167_5 HR168_5 hx167_0 hx167_1 hx167_2 hx167_3 hx167_4 hx167_5 hx167_6 hx167_7 hx167_8 hx168_0 hx168_1 hx168_2 hx168_3 hx168_4 hx168_5 hx168_6 hx168_7 hx168_8 hHeld ⊢
                 refine pu_ (i := 0) (N := some 72) b5_9 HT_ ?_
                 refine pu_ (i := 1) (N := some 73) b5_8 HT_ ?_
                 refine pu_ (i := 2) (N := some 74) b5_7 HT_ ?_
                 refine pu_ (i := 3) (N := some 75) b5_6 HT_ ?_
                 refine pu_ (i := 5) (N := some 77) b5_5 HT_ ?_
                 refine pu_ (i := 6) (N := some 78) b5_4 HT_ ?_
                 refine pu_ (i := 7) (N := some 79) b5_3 HT_ ?_
                 refine tk_ (i := 4) (N := some 76) b5_2 rfl rfl HT_ HW_ hHeld ?_
                 refine take_ (i := 8) (N := some 80) (v := ?_) (a' := ?_) b5_1 rfl rfl (take_ofW HT_.out HW_.out KR) (fun _ _ _ h => h) (Or.inl ⟨by rfl, ?_⟩) hHeld ?_ ?_
                 rotate_left
                 ·rintro w' ⟨s0, s1, s2, s3, s4, s5, s6, s7, s8, s9, s10, s11, s12, s13, s14, s15, s16, s17⟩
                  go_simp
                  with_reducible rfl
                 rotate_left
                 ·simp only [Act.put, List.setIfInBounds_toArray, List.set_cons_zero, List.set_cons_succ, i64_w, i32_w]
                  rfl
                 refine pu_ (i := 9) (N := some 81) b5_0 HT_ ?_
                 refine done_ (done_of HT_.out KR) ?_
                 try go_wp2
                 replace HO_6 := ak (Kd.N_drew HO_6.out)
                 replace HL167_5 := ak (Kd.V_drew HL167_5.out)
                 replace HL168_5 := ak (Kd.V_drew HL168_5.out)
                 replace BK144 := ak (blk_drew BK144.out)
                 replace BK145 := ak (blk_drew BK145.out)
                 replace BK146 := ak (blk_drew BK146.out)
                 replace HR165_5 := ak (Kd.C_drew HR165_5.out)
                 replace HR167_5 := ak (Kd.C_drew HR167_5.out)
                 replace HR168_5 := ak (Kd.C_drew HR168_5.out)
                 replace HB := ak (below_drew1 HB.out)
                 have p169 : 0 ≤ (0 : Int) := (by omega)
                 have q169 : 0 < (x6_2.length : Int) := of_decide_eq_true (by first | (with_reducible assumption) | assumption)
                 obtain ⟨ad169, A169_5, c169_5, e169, hx169_0, hx169_1, hx169_2, hx169_3, hx169_4, hx169_5, hx169_6, hx169_7, hx169_8, hl169_5, hi169_5⟩ := at_T40 (Kd.N_reads' HO_6.out).2.2 0 p169 q169
                 obtain rfl : ad165 = ad169 := (by injection e169)
                 obtain ⟨ce169, hce169, hMe169, hcc169⟩ := Kd.N_get HO_6.out z40 0 p169 (by first | exact q169 | exact of_decide_eq_true (by first | (with_reducible assumption) | assumption) | (have e_ := (Kd.N_reads' HO_6.out).1; omega))
                 obtain ⟨ua169_5, uc169_5, rfl, ul169_5, ge169_5⟩ := k40_openF hMe169
                 have hv169_5 := hcc169 5 _ rfl
                 rw [add_field _ _ 5 (by omega)] at hv169_5
                 replace hv169_5 := Option.some.inj (hv169_5.symm.trans hx169_5)
                 injection hv169_5 with hva_ hvn_ hvc_
                 rw [hva_] at ge169_5
                 rw [hvc_] at ul169_5
                 have HL169_5 := ak (show Kd.V (Kd.int .i64) 3 _ w.heap.size _ _ ((rd_T40 x6_2 0).f2.f1) from Kd.V_mk ul169_5 ge169_5)
                 clear hva_ hvn_ hvc_ ge169_5 ul169_5
                 clear hcc169 hce169
                 have qi169 : (0 < x6_2.length) = True := eq_true (by omega)
                 (try rw [show ((0 : Int)).toNat = 0 from rfl] at hx169_0)
                 (try rw [show 0 * 9 = 0 from rfl] at hx169_0)
                 (try rw [Addr.add_zero'] at hx169_0)
                 (try rw [show ((0 : Int)).toNat = 0 from rfl] at hx169_1)
                 (try rw [show 0 * 9 = 0 from rfl] at hx169_1)
                 (try rw [Addr.add_zero'] at hx169_1)
                 (try rw [show ((0 : Int)).toNat = 0 from rfl] at hx169_2)
                 (try rw [show 0 * 9 = 0 from rfl] at hx169_2)
                 (try rw [Addr.add_zero'] at hx169_2)
                 (try rw [show ((0 : Int)).toNat = 0 from rfl] at hx169_3)
                 (try rw [show 0 * 9 = 0 from rfl] at hx169_3)
                 (try rw [Addr.add_zero'] at hx169_3)
                 (try rw [show ((0 : Int)).toNat = 0 from rfl] at hx169_4)
                 (try rw [show 0 * 9 = 0 from rfl] at hx169_4)
                 (try rw [Addr.add_zero'] at hx169_4)
                 (try rw [show ((0 : Int)).toNat = 0 from rfl] at hx169_5)
                 (try rw [show 0 * 9 = 0 from rfl] at hx169_5)
                 (try rw [Addr.add_zero'] at hx169_5)
                 (try rw [show ((0 : Int)).toNat = 0 from rfl] at hx169_6)
                 (try rw [show 0 * 9 = 0 from rfl] at hx169_6)
                 (try rw [Addr.add_zero'] at hx169_6)
                 (try rw [show ((0 : Int)).toNat = 0 from rfl] at hx169_7)
                 (try rw [show 0 * 9 = 0 from rfl] at hx169_7)
                 (try rw [Addr.add_zero'] at hx169_7)
                 (try rw [show ((0 : Int)).toNat = 0 from rfl] at hx169_8)
                 (try rw [show 0 * 9 = 0 from rfl] at hx169_8)
                 (try rw [Addr.add_zero'] at hx169_8)
                 have HR169_5 := Aside0.mk hi169_5
                 have HC169_5 := Aside0.mk hl169_5
                 clear hi169_5 hl169_5
                 replace p169 := eq_true p169
                 replace q169 := eq_true q169
                 have p170 : 0 ≤ (x8_3 : Int) := of_decide_eq_true (by first | (with_reducible assumption) | assumption)
                 have q170 : x8_3 < (x6_2.length : Int) := of_decide_eq_true (by first | (with_reducible assumption) | assumption)
                 obtain ⟨ad170, A170_5, c170_5, e170, hx170_0, hx170_1, hx170_2, hx170_3, hx170_4, hx170_5, hx170_6, hx170_7, hx170_8, hl170_5, hi170_5⟩ := at_T40 (Kd.N_reads' HO_6.out).2.2 x8_3 p170 q170
                 obtain rfl : ad165 = ad170 := (by injection e170)
                 obtain ⟨ce170, hce170, hMe170, hcc170⟩ := Kd.N_get HO_6.out z40 x8_3 p170 (by first | exact q170 | exact of_decide_eq_true (by first | (with_reducible assumption) | assumption) | (have e_ := (Kd.N_reads' HO_6.out).1; omega))
                 obtain ⟨ua170_5, uc170_5, rfl, ul170_5, ge170_5⟩ := k40_openF hMe170
                 have hv170_5 := hcc170 5 _ rfl
                 rw [add_field _ _ 5 (by omega)] at hv170_5
                 replace hv170_5 := Option.some.inj (hv170_5.symm.trans hx170_5)
                 injection hv170_5 with hva_ hvn_ hvc_
                 rw [hva_] at ge170_5
                 rw [hvc_] at ul170_5
                 have HL170_5 := ak (show Kd.V (Kd.int .i64) 3 _ w.heap.size _ _ ((rd_T40 x6_2 x8_3).f2.f1) from Kd.V_mk ul170_5 ge170_5)
                 clear hva_ hvn_ hvc_ ge170_5 ul170_5
                 clear hcc170 hce170
                 have HR170_5 := Aside0.mk hi170_5
                 have HC170_5 := Aside0.mk hl170_5
                 clear hi170_5 hl170_5
                 replace p170 := eq_true p170
                 replace q170 := eq_true q170
                 refine start_ (n := 13) (S := fun w' => w'.cell? ad165 = some (.int .i64 ((rd_T40 x6_2 0).f0.f0)) ∧ w'.cell? ⟨ad165.block, ad165.off + 1, none⟩ = some (.int .i64 ((rd_T40 x6_2 0).f0.f1)) ∧ w'.cell? ⟨ad165.block, ad165.off + 2, none⟩ = some (.int .i64 ((rd_T40 x6_2 0).f0.f2)) ∧ w'.cell? ⟨ad165.block, ad165.off + 3, none⟩ = some (.int .i64 ((rd_T40 x6_2 0).f1)) ∧ w'.cell? ⟨ad165.block, ad165.off + 4, none⟩ = some (.int .i64 ((rd_T40 x6_2 0).f2.f0)) ∧ w'.cell? ⟨ad165.block, ad165.off + 5, none⟩ = some (.slice A169_5 ((rd_T40 x6_2 0).f2.f1).length c169_5) ∧ w'.cell? ⟨ad165.block, ad165.off + 6, none⟩ = some (.int .i64 ((rd_T40 x6_2 0).f2.f2.f0)) ∧ w'.cell? ⟨ad165.block, ad165.off + 7, none⟩ = some (.int .i64 ((rd_T40 x6_2 0).f2.f2.f1)) ∧ w'.cell? ⟨ad165.block, ad165.off + 8, none⟩ = some (.int .i64 ((rd_T40 x6_2 0).f2.f2.f2)) ∧ w'.cell? (ad165.add ((x8_3).toNat * 9)) = some (.int .i64 ((rd_T40 x6_2 x8_3).f0.f0)) ∧ w'.cell? ⟨(ad165.add ((x8_3).toNat * 9)).block, (ad165.add ((x8_3).toNat * 9)).off + 1, none⟩ = some (.int .i64 ((rd_T40 x6_2 x8_3).f0.f1)) ∧ w'.cell? ⟨(ad165.add ((x8_3).toNat * 9)).block, (ad165.add ((x8_3).toNat * 9)).off + 2, none⟩ = some (.int .i64 ((rd_T40 x6_2 x8_3).f0.f2)) ∧ w'.cell? ⟨(ad165.add ((x8_3).toNat * 9)).block, (ad165.add ((x8_3).toNat * 9)).off + 3, none⟩ = some (.int .i64 ((rd_T40 x6_2 x8_3).f1)) ∧ w'.cell? ⟨(ad165.add ((x8_3).toNat * 9)).block, (ad165.add ((x8_3).toNat * 9)).off + 4, none⟩ = some (.int .i64 ((rd_T40 x6_2 x8_3).f2.f0)) ∧ w'.cell? ⟨(ad165.add ((x8_3).toNat * 9)).block, (ad165.add ((x8_3).toNat * 9)).off + 5, none⟩ = some (.slice A170_5 ((rd_T40 x6_2 x8_3).f2.f1).length c170_5) ∧ w'.cell? ⟨(ad165.add ((x8_3).toNat * 9)).block, (ad165.add ((x8_3).toNat * 9)).off + 6, none⟩ = some (.int .i64 ((rd_T40 x6_2 x8_3).f2.f2.f0)) ∧ w'.cell? ⟨(ad165.add ((x8_3).toNat * 9)).block, (ad165.add ((x8_3).toNat * 9)).off + 7, none⟩ = some (.int .i64 ((rd_T40 x6_2 x8_3).f2.f2.f1)) ∧ w'.cell? ⟨(ad165.add ((x8_3).toNat * 9)).block, (ad165.add ((x8_3).toNat * 9)).off + 8, none⟩ = some (.int .i64 ((rd_T40 x6_2 x8_3).f2.f2.f2))) (ds := []) b5_40 KR rfl rfl ⟨hx169_0, hx169_1, hx169_2, hx169_3, hx169_4, hx169_5, hx169_6, hx169_7, hx169_8, hx170_0, hx170_1, hx170_2, hx170_3, hx170_4, hx170_5, hx170_6, hx170_7, hx170_8⟩ (fun hHeld => ?_); refine with_tabW spec_LearnForm.tab19 spec_LearnForm.bits19 (fun HT_ HW_ => ?_)
                 generalize w72.drew = w73 at HO_6 HL167_5 HL168_5 BK144 BK145 BK146 HR165_5 HR167_5 HR168_5 HB HL169_5 HL170_5 HR169_5 HR170_5 hx169_0 hx169_1 hx169_2 hx169_3 hx169_4 hx169_5 hx169_6 hx169_7 hx169_8 hx170_0 hx170_1 hx170_2 hx170_3 hx170_4 hx170_5 hx170_6 hx170_7 hx170_8 hHeld ⊢
                 refine pu_ (i := 0) (N := some 83) b5_39 HT_ ?_
                 refine pu_ (i := 1) (N := some 84) b5_38 HT_ ?_
                 refine pu_ (i := 3) (N := some 86) b5_37 HT_ ?_
                 refine pu_ (i := 4) (N := some 87) b5_36 HT_ ?_
                 refine pu_ (i := 5) (N := some 88) b5_35 HT_ ?_
                 refine tk_ (i := 2) (N := some 85) b5_34 rfl rfl HT_ HW_ hHeld ?_
                 refine take_ (i := 6) (N := some 89) (v := ?_) (a' := ?_) b5_33 rfl rfl (take_ofW HT_.out HW_.out KR) (fun _ _ _ h => h) (Or.inl ⟨by rfl, ?_⟩) hHeld ?_ ?_
                 rotate_left
                 ·rintro w' ⟨s0, s1, s2, s3, s4, s5, s6, s7, s8, s9, s10, s11, s12, s13, s14, s15, s16, s17⟩
                  go_simp
                  with_reducible rfl
                 rotate_left
                 ·simp only [Act.put, List.setIfInBounds_toArray, List.set_cons_zero, List.set_cons_succ, i64_w, i32_w]
                  rfl
                 refine one_ (i := 7) (N := some 90) b5_31 rfl rfl (one_of HT_.out KR) (by decide) (fun K hK => ?_)
                 refine goes_ Try.func112 KR rfl #[.agg #[.int .i64 ((rd_T40 x6_2 0).f0.f0), .int .i64 ((rd_T40 x6_2 0).f0.f1), .int .i64 ((rd_T40 x6_2 0).f0.f2), .int .i64 ((rd_T40 x6_2 0).f1), .int .i64 ((rd_T40 x6_2 0).f2.f0), .slice A169_5 ((rd_T40 x6_2 0).f2.f1).length c169_5, .int .i64 ((rd_T40 x6_2 0).f2.f2.f0), .int .i64 ((rd_T40 x6_2 0).f2.f2.f1), .int .i64 ((rd_T40 x6_2 0).f2.f2.f2)], .agg #[.int .i64 ((rd_T40 x6_2 x8_3).f0.f0), .int .i64 ((rd_T40 x6_2 x8_3).f0.f1), .int .i64 ((rd_T40 x6_2 x8_3).f0.f2), .int .i64 ((rd_T40 x6_2 x8_3).f1), .int .i64 ((rd_T40 x6_2 x8_3).f2.f0), .slice A170_5 ((rd_T40 x6_2 x8_3).f2.f1).length c170_5, .int .i64 ((rd_T40 x6_2 x8_3).f2.f2.f0), .int .i64 ((rd_T40 x6_2 x8_3).f2.f2.f1), .int .i64 ((rd_T40 x6_2 x8_3).f2.f2.f2)]] (by rfl) rfl rfl AR ?_
                 with_reducible refine (spec_l19Step.calls k3 ((rd_T40 x6_2 0).f0.f0) ((rd_T40 x6_2 0).f0.f1) ((rd_T40 x6_2 0).f0.f2) ((rd_T40 x6_2 0).f1) ((rd_T40 x6_2 0).f2.f0) _ _ ((rd_T40 x6_2 0).f2.f1) ((rd_T40 x6_2 0).f2.f2.f0) ((rd_T40 x6_2 0).f2.f2.f1) ((rd_T40 x6_2 0).f2.f2.f2) ((rd_T40 x6_2 x8_3).f0.f0) ((rd_T40 x6_2 x8_3).f0.f1) ((rd_T40 x6_2 x8_3).f0.f2) ((rd_T40 x6_2 x8_3).f1) ((rd_T40 x6_2 x8_3).f2.f0) _ _ ((rd_T40 x6_2 x8_3).f2.f1) ((rd_T40 x6_2 x8_3).f2.f2.f0) ((rd_T40 x6_2 x8_3).f2.f2.f1) ((rd_T40 x6_2 x8_3).f2.f2.f2) t171 t172 _ ?side1 ?side2 ?side3 ?side4 A70.out).mono ?_
                 (case side1 => repeat (first | exact (PC HR169_5) | (with_reducible refine Kd.C_alloc ?_ _) | (with_reducible refine Kd.C_drewN ?_ _) | (with_reducible refine Kd.C_drew ?_)))
                 (case side2 => exact HC169_5.out)
                 (case side3 => repeat (first | exact (PC HR170_5) | (with_reducible refine Kd.C_alloc ?_ _) | (with_reducible refine Kd.C_drewN ?_ _) | (with_reducible refine Kd.C_drew ?_)))
                 (case side4 => exact HC170_5.out)
                 rintro e w74 ⟨rfl, hb⟩
                 have HS0_ := hs_ hb hHeld.1; have HS1_ := hs_ hb hHeld.2.1; have HS2_ := hs_ hb hHeld.2.2.1; have HS3_ := hs_ hb hHeld.2.2.2.1; have HS4_ := hs_ hb hHeld.2.2.2.2.1; have HS5_ := hs_ hb hHeld.2.2.2.2.2.1; have HS6_ := hs_ hb hHeld.2.2.2.2.2.2.1; have HS7_ := hs_ hb hHeld.2.2.2.2.2.2.2.1; have HS8_ := hs_ hb hHeld.2.2.2.2.2.2.2.2.1; have HS9_ := hs_ hb hHeld.2.2.2.2.2.2.2.2.2.1; have HS10_ := hs_ hb hHeld.2.2.2.2.2.2.2.2.2.2.1; have HS11_ := hs_ hb hHeld.2.2.2.2.2.2.2.2.2.2.2.1; have HS12_ := hs_ hb hHeld.2.2.2.2.2.2.2.2.2.2.2.2.1; have HS13_ := hs_ hb hHeld.2.2.2.2.2.2.2.2.2.2.2.2.2.1; have HS14_ := hs_ hb hHeld.2.2.2.2.2.2.2.2.2.2.2.2.2.2.1; have HS15_ := hs_ hb hHeld.2.2.2.2.2.2.2.2.2.2.2.2.2.2.2.1; have HS16_ := hs_ hb hHeld.2.2.2.2.2.2.2.2.2.2.2.2.2.2.2.2.1; have HS17_ := hs_ hb hHeld.2.2.2.2.2.2.2.2.2.2.2.2.2.2.2.2.2
                 refine ⟨_, rfl, ?_⟩
                 replace HO_6 := Nb HO_6 hb
                 replace HL167_5 := Vb HL167_5 hb
                 replace HL168_5 := Vb HL168_5 hb
                 replace HL169_5 := Vb HL169_5 hb
                 replace HL170_5 := Vb HL170_5 hb
                 replace BK144 := kf BK144 hb
                 replace BK145 := kf BK145 hb
                 replace BK146 := kf BK146 hb
                 replace HR165_5 := Cb HR165_5 hb
                 replace HR167_5 := Cb HR167_5 hb
                 replace HR168_5 := Cb HR168_5 hb
                 replace HR169_5 := Cb HR169_5 hb
                 replace HR170_5 := Cb HR170_5 hb
                 replace HB := bs HB hb
                 (try clear hb)
                 (try clear hb2)
                 (try clear hk)
                 (try clear hi)
                 refine hK.out _ _ ⟨HS0_, HS1_, HS2_, HS3_, HS4_, HS5_, HS6_, HS7_, HS8_, HS9_, HS10_, HS11_, HS12_, HS13_, HS14_, HS15_, HS16_, HS17_⟩ (fun hHeld => ?_)
                 clear hK K
                 refine norm_ (a' := ?_) ?_ ?_
                 rotate_left
                 ·show Act.put _ (some 90) _ = _
                  simp only [Act.put, List.setIfInBounds_toArray, List.set_cons_zero, List.set_cons_succ, i64_w, i32_w]
                  rfl
                 refine pu_ (i := 8) (N := some 82) b5_29 HT_ ?_
                 refine pu_ (i := 9) (N := some 91) b5_27 HT_ ?_
                 refine pu_ (i := 10) (N := some 92) b5_25 HT_ ?_
                 refine pu_ (i := 11) (N := some 9) b5_22 HT_ ?_
                 refine pu_ (i := 12) (N := some 10) b5_19 HT_ ?_
                 refine done_ (done_of HT_.out KR) ?_
                 have hnb75 := NB146_144.out
                 have hnc75 := NB144_146.out
                 have hnb76 := NB146_145.out
                 have hnc76 := NB145_146.out
                 obtain ⟨_, _, _, _, _, _, _, _⟩ := bc4 BK146
                 try go_wp2
                 go_meet
                 case rel => exact ⟨_, (t172), (t171), H', ⟨by have := HJ2.out; have := HK2.out; have := HK3.out; first | omega | exact Nat.le_refl _⟩, ⟨NX (Kd.N_mono HO_6.out (fun k_ hk => (⟨hk, hk.2.2.2⟩ : _ ∧ k_ ≠ gb146))) (fun _ hk => ⟨hk.1.1, ⟨hk.1.2.1, ⟨hk.1.2.2.1, hk.1.2.2.2⟩⟩⟩)⟩, ⟨PF BK144⟩, ⟨PF BK145⟩, ⟨PX BK146⟩, ⟨PB⟩⟩
                ·rw [if_neg c71] at H
                 have c71b0 : decide (0 ≤ t171) = false := decide_eq_false c71
                 clear c71
                 have H' := Aside0.mk H
                 clear H
                 try go_wp2
                 replace HO_6 := ak (Kd.N_drew HO_6.out)
                 replace BK144 := ak (blk_drew BK144.out)
                 replace BK145 := ak (blk_drew BK145.out)
                 replace BK146 := ak (blk_drew BK146.out)
                 replace HR165_5 := ak (Kd.C_drew HR165_5.out)
                 replace HB := ak (below_drew1 HB.out)
                 have p167 : 0 ≤ (x8_3 : Int) := of_decide_eq_true (by first | (with_reducible assumption) | assumption)
                 have q167 : x8_3 < (x6_2.length : Int) := of_decide_eq_true (by first | (with_reducible assumption) | assumption)
                 obtain ⟨ad167, A167_5, c167_5, e167, hx167_0, hx167_1, hx167_2, hx167_3, hx167_4, hx167_5, hx167_6, hx167_7, hx167_8, hl167_5, hi167_5⟩ := at_T40 (Kd.N_reads' HO_6.out).2.2 x8_3 p167 q167
                 obtain rfl : ad165 = ad167 := (by injection e167)
                 obtain ⟨ce167, hce167, hMe167, hcc167⟩ := Kd.N_get HO_6.out z40 x8_3 p167 (by first | exact q167 | exact of_decide_eq_true (by first | (with_reducible assumption) | assumption) | (have e_ := (Kd.N_reads' HO_6.out).1; omega))
                 obtain ⟨ua167_5, uc167_5, rfl, ul167_5, ge167_5⟩ := k40_openF hMe167
                 have hv167_5 := hcc167 5 _ rfl
                 rw [add_field _ _ 5 (by omega)] at hv167_5
                 replace hv167_5 := Option.some.inj (hv167_5.symm.trans hx167_5)
                 injection hv167_5 with hva_ hvn_ hvc_
                 rw [hva_] at ge167_5
                 rw [hvc_] at ul167_5
                 have HL167_5 := ak (show Kd.V (Kd.int .i64) 3 _ w.heap.size _ _ ((rd_T40 x6_2 x8_3).f2.f1) from Kd.V_mk ul167_5 ge167_5)
                 clear hva_ hvn_ hvc_ ge167_5 ul167_5
                 clear hcc167 hce167
                 have HR167_5 := Aside0.mk hi167_5
                 have HC167_5 := Aside0.mk hl167_5
                 clear hi167_5 hl167_5
                 replace p167 := eq_true p167
                 replace q167 := eq_true q167
                 have p168 : 0 ≤ (0 : Int) := (by omega)
                 have q168 : 0 < (x6_2.length : Int) := of_decide_eq_true (by first | (with_reducible assumption) | assumption)
                 obtain ⟨ad168, A168_5, c168_5, e168, hx168_0, hx168_1, hx168_2, hx168_3, hx168_4, hx168_5, hx168_6, hx168_7, hx168_8, hl168_5, hi168_5⟩ := at_T40 (Kd.N_reads' HO_6.out).2.2 0 p168 q168
                 obtain rfl : ad165 = ad168 := (by injection e168)
                 obtain ⟨ce168, hce168, hMe168, hcc168⟩ := Kd.N_get HO_6.out z40 0 p168 (by first | exact q168 | exact of_decide_eq_true (by first | (with_reducible assumption) | assumption) | (have e_ := (Kd.N_reads' HO_6.out).1; omega))
                 obtain ⟨ua168_5, uc168_5, rfl, ul168_5, ge168_5⟩ := k40_openF hMe168
                 have hv168_5 := hcc168 5 _ rfl
                 rw [add_field _ _ 5 (by omega)] at hv168_5
                 replace hv168_5 := Option.some.inj (hv168_5.symm.trans hx168_5)
                 injection hv168_5 with hva_ hvn_ hvc_
                 rw [hva_] at ge168_5
                 rw [hvc_] at ul168_5
                 have HL168_5 := ak (show Kd.V (Kd.int .i64) 3 _ w.heap.size _ _ ((rd_T40 x6_2 0).f2.f1) from Kd.V_mk ul168_5 ge168_5)
                 clear hva_ hvn_ hvc_ ge168_5 ul168_5
                 clear hcc168 hce168
                 have qi168 : (0 < x6_2.length) = True := eq_true (by omega)
                 (try rw [show ((0 : Int)).toNat = 0 from rfl] at hx168_0)
                 (try rw [show 0 * 9 = 0 from rfl] at hx168_0)
                 (try rw [Addr.add_zero'] at hx168_0)
                 (try rw [show ((0 : Int)).toNat = 0 from rfl] at hx168_1)
                 (try rw [show 0 * 9 = 0 from rfl] at hx168_1)
                 (try rw [Addr.add_zero'] at hx168_1)
                 (try rw [show ((0 : Int)).toNat = 0 from rfl] at hx168_2)
                 (try rw [show 0 * 9 = 0 from rfl] at hx168_2)
                 (try rw [Addr.add_zero'] at hx168_2)
                 (try rw [show ((0 : Int)).toNat = 0 from rfl] at hx168_3)
                 (try rw [show 0 * 9 = 0 from rfl] at hx168_3)
                 (try rw [Addr.add_zero'] at hx168_3)
                 (try rw [show ((0 : Int)).toNat = 0 from rfl] at hx168_4)
                 (try rw [show 0 * 9 = 0 from rfl] at hx168_4)
                 (try rw [Addr.add_zero'] at hx168_4)
                 (try rw [show ((0 : Int)).toNat = 0 from rfl] at hx168_5)
                 (try rw [show 0 * 9 = 0 from rfl] at hx168_5)
                 (try rw [Addr.add_zero'] at hx168_5)
                 (try rw [show ((0 : Int)).toNat = 0 from rfl] at hx168_6)
                 (try rw [show 0 * 9 = 0 from rfl] at hx168_6)
                 (try rw [Addr.add_zero'] at hx168_6)
                 (try rw [show ((0 : Int)).toNat = 0 from rfl] at hx168_7)
                 (try rw [show 0 * 9 = 0 from rfl] at hx168_7)
                 (try rw [Addr.add_zero'] at hx168_7)
                 (try rw [show ((0 : Int)).toNat = 0 from rfl] at hx168_8)
                 (try rw [show 0 * 9 = 0 from rfl] at hx168_8)
                 (try rw [Addr.add_zero'] at hx168_8)
                 have HR168_5 := Aside0.mk hi168_5
                 have HC168_5 := Aside0.mk hl168_5
                 clear hi168_5 hl168_5
                 replace p168 := eq_true p168
                 replace q168 := eq_true q168
                 refine start_ (n := 10) (S := fun w' => w'.cell? (ad165.add ((x8_3).toNat * 9)) = some (.int .i64 ((rd_T40 x6_2 x8_3).f0.f0)) ∧ w'.cell? ⟨(ad165.add ((x8_3).toNat * 9)).block, (ad165.add ((x8_3).toNat * 9)).off + 1, none⟩ = some (.int .i64 ((rd_T40 x6_2 x8_3).f0.f1)) ∧ w'.cell? ⟨(ad165.add ((x8_3).toNat * 9)).block, (ad165.add ((x8_3).toNat * 9)).off + 2, none⟩ = some (.int .i64 ((rd_T40 x6_2 x8_3).f0.f2)) ∧ w'.cell? ⟨(ad165.add ((x8_3).toNat * 9)).block, (ad165.add ((x8_3).toNat * 9)).off + 3, none⟩ = some (.int .i64 ((rd_T40 x6_2 x8_3).f1)) ∧ w'.cell? ⟨(ad165.add ((x8_3).toNat * 9)).block, (ad165.add ((x8_3).toNat * 9)).off + 4, none⟩ = some (.int .i64 ((rd_T40 x6_2 x8_3).f2.f0)) ∧ w'.cell? ⟨(ad165.add ((x8_3).toNat * 9)).block, (ad165.add ((x8_3).toNat * 9)).off + 5, none⟩ = some (.slice A167_5 ((rd_T40 x6_2 x8_3).f2.f1).length c167_5) ∧ w'.cell? ⟨(ad165.add ((x8_3).toNat * 9)).block, (ad165.add ((x8_3).toNat * 9)).off + 6, none⟩ = some (.int .i64 ((rd_T40 x6_2 x8_3).f2.f2.f0)) ∧ w'.cell? ⟨(ad165.add ((x8_3).toNat * 9)).block, (ad165.add ((x8_3).toNat * 9)).off + 7, none⟩ = some (.int .i64 ((rd_T40 x6_2 x8_3).f2.f2.f1)) ∧ w'.cell? ⟨(ad165.add ((x8_3).toNat * 9)).block, (ad165.add ((x8_3).toNat * 9)).off + 8, none⟩ = some (.int .i64 ((rd_T40 x6_2 x8_3).f2.f2.f2)) ∧ w'.cell? ad165 = some (.int .i64 ((rd_T40 x6_2 0).f0.f0)) ∧ w'.cell? ⟨ad165.block, ad165.off + 1, none⟩ = some (.int .i64 ((rd_T40 x6_2 0).f0.f1)) ∧ w'.cell? ⟨ad165.block, ad165.off + 2, none⟩ = some (.int .i64 ((rd_T40 x6_2 0).f0.f2)) ∧ w'.cell? ⟨ad165.block, ad165.off + 3, none⟩ = some (.int .i64 ((rd_T40 x6_2 0).f1)) ∧ w'.cell? ⟨ad165.block, ad165.off + 4, none⟩ = some (.int .i64 ((rd_T40 x6_2 0).f2.f0)) ∧ w'.cell? ⟨ad165.block, ad165.off + 5, none⟩ = some (.slice A168_5 ((rd_T40 x6_2 0).f2.f1).length c168_5) ∧ w'.cell? ⟨ad165.block, ad165.off + 6, none⟩ = some (.int .i64 ((rd_T40 x6_2 0).f2.f2.f0)) ∧ w'.cell? ⟨ad165.block, ad165.off + 7, none⟩ = some (.int .i64 ((rd_T40 x6_2 0).f2.f2.f1)) ∧ w'.cell? ⟨ad165.block, ad165.off + 8, none⟩ = some (.int .i64 ((rd_T40 x6_2 0).f2.f2.f2))) (ds := []) b5_10 KR rfl rfl ⟨hx167_0, hx167_1, hx167_2, hx167_3, hx167_4, hx167_5, hx167_6, hx167_7, hx167_8, hx168_0, hx168_1, hx168_2, hx168_3, hx168_4, hx168_5, hx168_6, hx168_7, hx168_8⟩ (fun hHeld => ?_); refine with_tabW spec_LearnForm.tab18 spec_LearnForm.bits18 (fun HT_ HW_ => ?_)
                 generalize wr.drew = w78 at HO_6 BK144 BK145 BK146 HR165_5 HB HL167_5 HL168_5 HR167_5 HR168_5 hx167_0 hx167_1 hx167_2 hx167_3 hx167_4 hx167_5 hx167_6 hx167_7 hx167_8 hx168_0 hx168_1 hx168_2 hx168_3 hx168_4 hx168_5 hx168_6 hx168_7 hx168_8 hHeld ⊢
                 refine pu_ (i := 0) (N := some 72) b5_9 HT_ ?_
                 refine pu_ (i := 1) (N := some 73) b5_8 HT_ ?_
                 refine pu_ (i := 2) (N := some 74) b5_7 HT_ ?_
                 refine pu_ (i := 3) (N := some 75) b5_6 HT_ ?_
                 refine pu_ (i := 5) (N := some 77) b5_5 HT_ ?_
                 refine pu_ (i := 6) (N := some 78) b5_4 HT_ ?_
                 refine pu_ (i := 7) (N := some 79) b5_3 HT_ ?_
                 refine tk_ (i := 4) (N := some 76) b5_2 rfl rfl HT_ HW_ hHeld ?_
                 refine take_ (i := 8) (N := some 80) (v := ?_) (a' := ?_) b5_1 rfl rfl (take_ofW HT_.out HW_.out KR) (fun _ _ _ h => h) (Or.inl ⟨by rfl, ?_⟩) hHeld ?_ ?_
                 rotate_left
                 ·rintro w' ⟨s0, s1, s2, s3, s4, s5, s6, s7, s8, s9, s10, s11, s12, s13, s14, s15, s16, s17⟩
                  go_simp
                  with_reducible rfl
                 rotate_left
                 ·simp only [Act.put, List.setIfInBounds_toArray, List.set_cons_zero, List.set_cons_succ, i64_w, i32_w]
                  rfl
                 refine pu_ (i := 9) (N := some 81) b5_0 HT_ ?_
                 refine done_ (done_of HT_.out KR) ?_
                 try go_wp2
                 replace HO_6 := ak (Kd.N_drew HO_6.out)
                 replace HL167_5 := ak (Kd.V_drew HL167_5.out)
                 replace HL168_5 := ak (Kd.V_drew HL168_5.out)
                 replace BK144 := ak (blk_drew BK144.out)
                 replace BK145 := ak (blk_drew BK145.out)
                 replace BK146 := ak (blk_drew BK146.out)
                 replace HR165_5 := ak (Kd.C_drew HR165_5.out)
                 replace HR167_5 := ak (Kd.C_drew HR167_5.out)
                 replace HR168_5 := ak (Kd.C_drew HR168_5.out)
                 replace HB := ak (below_drew1 HB.out)
                 have p169 : 0 ≤ (0 : Int) := (by omega)
                 have q169 : 0 < (x6_2.length : Int) := of_decide_eq_true (by first | (with_reducible assumption) | assumption)
                 obtain ⟨ad169, A169_5, c169_5, e169, hx169_0, hx169_1, hx169_2, hx169_3, hx169_4, hx169_5, hx169_6, hx169_7, hx169_8, hl169_5, hi169_5⟩ := at_T40 (Kd.N_reads' HO_6.out).2.2 0 p169 q169
                 obtain rfl : ad165 = ad169 := (by injection e169)
                 obtain ⟨ce169, hce169, hMe169, hcc169⟩ := Kd.N_get HO_6.out z40 0 p169 (by first | exact q169 | exact of_decide_eq_true (by first | (with_reducible assumption) | assumption) | (have e_ := (Kd.N_reads' HO_6.out).1; omega))
                 obtain ⟨ua169_5, uc169_5, rfl, ul169_5, ge169_5⟩ := k40_openF hMe169
                 have hv169_5 := hcc169 5 _ rfl
                 rw [add_field _ _ 5 (by omega)] at hv169_5
                 replace hv169_5 := Option.some.inj (hv169_5.symm.trans hx169_5)
                 injection hv169_5 with hva_ hvn_ hvc_
                 rw [hva_] at ge169_5
                 rw [hvc_] at ul169_5
                 have HL169_5 := ak (show Kd.V (Kd.int .i64) 3 _ w.heap.size _ _ ((rd_T40 x6_2 0).f2.f1) from Kd.V_mk ul169_5 ge169_5)
                 clear hva_ hvn_ hvc_ ge169_5 ul169_5
                 clear hcc169 hce169
                 have qi169 : (0 < x6_2.length) = True := eq_true (by omega)
                 (try rw [show ((0 : Int)).toNat = 0 from rfl] at hx169_0)
                 (try rw [show 0 * 9 = 0 from rfl] at hx169_0)
                 (try rw [Addr.add_zero'] at hx169_0)
                 (try rw [show ((0 : Int)).toNat = 0 from rfl] at hx169_1)
                 (try rw [show 0 * 9 = 0 from rfl] at hx169_1)
                 (try rw [Addr.add_zero'] at hx169_1)
                 (try rw [show ((0 : Int)).toNat = 0 from rfl] at hx169_2)
                 (try rw [show 0 * 9 = 0 from rfl] at hx169_2)
                 (try rw [Addr.add_zero'] at hx169_2)
                 (try rw [show ((0 : Int)).toNat = 0 from rfl] at hx169_3)
                 (try rw [show 0 * 9 = 0 from rfl] at hx169_3)
                 (try rw [Addr.add_zero'] at hx169_3)
                 (try rw [show ((0 : Int)).toNat = 0 from rfl] at hx169_4)
                 (try rw [show 0 * 9 = 0 from rfl] at hx169_4)
                 (try rw [Addr.add_zero'] at hx169_4)
                 (try rw [show ((0 : Int)).toNat = 0 from rfl] at hx169_5)
                 (try rw [show 0 * 9 = 0 from rfl] at hx169_5)
                 (try rw [Addr.add_zero'] at hx169_5)
                 (try rw [show ((0 : Int)).toNat = 0 from rfl] at hx169_6)
                 (try rw [show 0 * 9 = 0 from rfl] at hx169_6)
                 (try rw [Addr.add_zero'] at hx169_6)
                 (try rw [show ((0 : Int)).toNat = 0 from rfl] at hx169_7)
                 (try rw [show 0 * 9 = 0 from rfl] at hx169_7)
                 (try rw [Addr.add_zero'] at hx169_7)
                 (try rw [show ((0 : Int)).toNat = 0 from rfl] at hx169_8)
                 (try rw [show 0 * 9 = 0 from rfl] at hx169_8)
                 (try rw [Addr.add_zero'] at hx169_8)
                 have HR169_5 := Aside0.mk hi169_5
                 have HC169_5 := Aside0.mk hl169_5
                 clear hi169_5 hl169_5
                 replace p169 := eq_true p169
                 replace q169 := eq_true q169
                 have p170 : 0 ≤ (x8_3 : Int) := of_decide_eq_true (by first | (with_reducible assumption) | assumption)
                 have q170 : x8_3 < (x6_2.length : Int) := of_decide_eq_true (by first | (with_reducible assumption) | assumption)
                 obtain ⟨ad170, A170_5, c170_5, e170, hx170_0, hx170_1, hx170_2, hx170_3, hx170_4, hx170_5, hx170_6, hx170_7, hx170_8, hl170_5, hi170_5⟩ := at_T40 (Kd.N_reads' HO_6.out).2.2 x8_3 p170 q170
                 obtain rfl : ad165 = ad170 := (by injection e170)
                 obtain ⟨ce170, hce170, hMe170, hcc170⟩ := Kd.N_get HO_6.out z40 x8_3 p170 (by first | exact q170 | exact of_decide_eq_true (by first | (with_reducible assumption) | assumption) | (have e_ := (Kd.N_reads' HO_6.out).1; omega))
                 obtain ⟨ua170_5, uc170_5, rfl, ul170_5, ge170_5⟩ := k40_openF hMe170
                 have hv170_5 := hcc170 5 _ rfl
                 rw [add_field _ _ 5 (by omega)] at hv170_5
                 replace hv170_5 := Option.some.inj (hv170_5.symm.trans hx170_5)
                 injection hv170_5 with hva_ hvn_ hvc_
                 rw [hva_] at ge170_5
                 rw [hvc_] at ul170_5
                 have HL170_5 := ak (show Kd.V (Kd.int .i64) 3 _ w.heap.size _ _ ((rd_T40 x6_2 x8_3).f2.f1) from Kd.V_mk ul170_5 ge170_5)
                 clear hva_ hvn_ hvc_ ge170_5 ul170_5
                 clear hcc170 hce170
                 have HR170_5 := Aside0.mk hi170_5
                 have HC170_5 := Aside0.mk hl170_5
                 clear hi170_5 hl170_5
                 replace p170 := eq_true p170
                 replace q170 := eq_true q170
                 refine start_ (n := 13) (S := fun w' => w'.cell? ad165 = some (.int .i64 ((rd_T40 x6_2 0).f0.f0)) ∧ w'.cell? ⟨ad165.block, ad165.off + 1, none⟩ = some (.int .i64 ((rd_T40 x6_2 0).f0.f1)) ∧ w'.cell? ⟨ad165.block, ad165.off + 2, none⟩ = some (.int .i64 ((rd_T40 x6_2 0).f0.f2)) ∧ w'.cell? ⟨ad165.block, ad165.off + 3, none⟩ = some (.int .i64 ((rd_T40 x6_2 0).f1)) ∧ w'.cell? ⟨ad165.block, ad165.off + 4, none⟩ = some (.int .i64 ((rd_T40 x6_2 0).f2.f0)) ∧ w'.cell? ⟨ad165.block, ad165.off + 5, none⟩ = some (.slice A169_5 ((rd_T40 x6_2 0).f2.f1).length c169_5) ∧ w'.cell? ⟨ad165.block, ad165.off + 6, none⟩ = some (.int .i64 ((rd_T40 x6_2 0).f2.f2.f0)) ∧ w'.cell? ⟨ad165.block, ad165.off + 7, none⟩ = some (.int .i64 ((rd_T40 x6_2 0).f2.f2.f1)) ∧ w'.cell? ⟨ad165.block, ad165.off + 8, none⟩ = some (.int .i64 ((rd_T40 x6_2 0).f2.f2.f2)) ∧ w'.cell? (ad165.add ((x8_3).toNat * 9)) = some (.int .i64 ((rd_T40 x6_2 x8_3).f0.f0)) ∧ w'.cell? ⟨(ad165.add ((x8_3).toNat * 9)).block, (ad165.add ((x8_3).toNat * 9)).off + 1, none⟩ = some (.int .i64 ((rd_T40 x6_2 x8_3).f0.f1)) ∧ w'.cell? ⟨(ad165.add ((x8_3).toNat * 9)).block, (ad165.add ((x8_3).toNat * 9)).off + 2, none⟩ = some (.int .i64 ((rd_T40 x6_2 x8_3).f0.f2)) ∧ w'.cell? ⟨(ad165.add ((x8_3).toNat * 9)).block, (ad165.add ((x8_3).toNat * 9)).off + 3, none⟩ = some (.int .i64 ((rd_T40 x6_2 x8_3).f1)) ∧ w'.cell? ⟨(ad165.add ((x8_3).toNat * 9)).block, (ad165.add ((x8_3).toNat * 9)).off + 4, none⟩ = some (.int .i64 ((rd_T40 x6_2 x8_3).f2.f0)) ∧ w'.cell? ⟨(ad165.add ((x8_3).toNat * 9)).block, (ad165.add ((x8_3).toNat * 9)).off + 5, none⟩ = some (.slice A170_5 ((rd_T40 x6_2 x8_3).f2.f1).length c170_5) ∧ w'.cell? ⟨(ad165.add ((x8_3).toNat * 9)).block, (ad165.add ((x8_3).toNat * 9)).off + 6, none⟩ = some (.int .i64 ((rd_T40 x6_2 x8_3).f2.f2.f0)) ∧ w'.cell? ⟨(ad165.add ((x8_3).toNat * 9)).block, (ad165.add ((x8_3).toNat * 9)).off + 7, none⟩ = some (.int .i64 ((rd_T40 x6_2 x8_3).f2.f2.f1)) ∧ w'.cell? ⟨(ad165.add ((x8_3).toNat * 9)).block, (ad165.add ((x8_3).toNat * 9)).off + 8, none⟩ = some (.int .i64 ((rd_T40 x6_2 x8_3).f2.f2.f2))) (ds := []) b5_40 KR rfl rfl ⟨hx169_0, hx169_1, hx169_2, hx169_3, hx169_4, hx169_5, hx169_6, hx169_7, hx169_8, hx170_0, hx170_1, hx170_2, hx170_3, hx170_4, hx170_5, hx170_6, hx170_7, hx170_8⟩ (fun hHeld => ?_); refine with_tabW spec_LearnForm.tab19 spec_LearnForm.bits19 (fun HT_ HW_ => ?_)
                 generalize w78.drew = w79 at HO_6 HL167_5 HL168_5 BK144 BK145 BK146 HR165_5 HR167_5 HR168_5 HB HL169_5 HL170_5 HR169_5 HR170_5 hx169_0 hx169_1 hx169_2 hx169_3 hx169_4 hx169_5 hx169_6 hx169_7 hx169_8 hx170_0 hx170_1 hx170_2 hx170_3 hx170_4 hx170_5 hx170_6 hx170_7 hx170_8 hHeld ⊢
                 refine pu_ (i := 0) (N := some 83) b5_39 HT_ ?_
                 refine pu_ (i := 1) (N := some 84) b5_38 HT_ ?_
                 refine pu_ (i := 3) (N := some 86) b5_37 HT_ ?_
                 refine pu_ (i := 4) (N := some 87) b5_36 HT_ ?_
                 refine pu_ (i := 5) (N := some 88) b5_35 HT_ ?_
                 refine tk_ (i := 2) (N := some 85) b5_34 rfl rfl HT_ HW_ hHeld ?_
                 refine take_ (i := 6) (N := some 89) (v := ?_) (a' := ?_) b5_33 rfl rfl (take_ofW HT_.out HW_.out KR) (fun _ _ _ h => h) (Or.inl ⟨by rfl, ?_⟩) hHeld ?_ ?_
                 rotate_left
                 ·rintro w' ⟨s0, s1, s2, s3, s4, s5, s6, s7, s8, s9, s10, s11, s12, s13, s14, s15, s16, s17⟩
                  go_simp
                  with_reducible rfl
                 rotate_left
                 ·simp only [Act.put, List.setIfInBounds_toArray, List.set_cons_zero, List.set_cons_succ, i64_w, i32_w]
                  rfl
                 refine one_ (i := 7) (N := some 90) b5_31 rfl rfl (one_of HT_.out KR) (by decide) (fun K hK => ?_)
                 refine goes_ Try.func112 KR rfl #[.agg #[.int .i64 ((rd_T40 x6_2 0).f0.f0), .int .i64 ((rd_T40 x6_2 0).f0.f1), .int .i64 ((rd_T40 x6_2 0).f0.f2), .int .i64 ((rd_T40 x6_2 0).f1), .int .i64 ((rd_T40 x6_2 0).f2.f0), .slice A169_5 ((rd_T40 x6_2 0).f2.f1).length c169_5, .int .i64 ((rd_T40 x6_2 0).f2.f2.f0), .int .i64 ((rd_T40 x6_2 0).f2.f2.f1), .int .i64 ((rd_T40 x6_2 0).f2.f2.f2)], .agg #[.int .i64 ((rd_T40 x6_2 x8_3).f0.f0), .int .i64 ((rd_T40 x6_2 x8_3).f0.f1), .int .i64 ((rd_T40 x6_2 x8_3).f0.f2), .int .i64 ((rd_T40 x6_2 x8_3).f1), .int .i64 ((rd_T40 x6_2 x8_3).f2.f0), .slice A170_5 ((rd_T40 x6_2 x8_3).f2.f1).length c170_5, .int .i64 ((rd_T40 x6_2 x8_3).f2.f2.f0), .int .i64 ((rd_T40 x6_2 x8_3).f2.f2.f1), .int .i64 ((rd_T40 x6_2 x8_3).f2.f2.f2)]] (by rfl) rfl rfl AR ?_
                 with_reducible refine (spec_l19Step.calls k3 ((rd_T40 x6_2 0).f0.f0) ((rd_T40 x6_2 0).f0.f1) ((rd_T40 x6_2 0).f0.f2) ((rd_T40 x6_2 0).f1) ((rd_T40 x6_2 0).f2.f0) _ _ ((rd_T40 x6_2 0).f2.f1) ((rd_T40 x6_2 0).f2.f2.f0) ((rd_T40 x6_2 0).f2.f2.f1) ((rd_T40 x6_2 0).f2.f2.f2) ((rd_T40 x6_2 x8_3).f0.f0) ((rd_T40 x6_2 x8_3).f0.f1) ((rd_T40 x6_2 x8_3).f0.f2) ((rd_T40 x6_2 x8_3).f1) ((rd_T40 x6_2 x8_3).f2.f0) _ _ ((rd_T40 x6_2 x8_3).f2.f1) ((rd_T40 x6_2 x8_3).f2.f2.f0) ((rd_T40 x6_2 x8_3).f2.f2.f1) ((rd_T40 x6_2 x8_3).f2.f2.f2) t171 t172 _ ?side1 ?side2 ?side3 ?side4 A70.out).mono ?_
                 (case side1 => repeat (first | exact (PC HR169_5) | (with_reducible refine Kd.C_alloc ?_ _) | (with_reducible refine Kd.C_drewN ?_ _) | (with_reducible refine Kd.C_drew ?_)))
                 (case side2 => exact HC169_5.out)
                 (case side3 => repeat (first | exact (PC HR170_5) | (with_reducible refine Kd.C_alloc ?_ _) | (with_reducible refine Kd.C_drewN ?_ _) | (with_reducible refine Kd.C_drew ?_)))
                 (case side4 => exact HC170_5.out)
                 rintro e w80 ⟨rfl, hb⟩
                 have HS0_ := hs_ hb hHeld.1; have HS1_ := hs_ hb hHeld.2.1; have HS2_ := hs_ hb hHeld.2.2.1; have HS3_ := hs_ hb hHeld.2.2.2.1; have HS4_ := hs_ hb hHeld.2.2.2.2.1; have HS5_ := hs_ hb hHeld.2.2.2.2.2.1; have HS6_ := hs_ hb hHeld.2.2.2.2.2.2.1; have HS7_ := hs_ hb hHeld.2.2.2.2.2.2.2.1; have HS8_ := hs_ hb hHeld.2.2.2.2.2.2.2.2.1; have HS9_ := hs_ hb hHeld.2.2.2.2.2.2.2.2.2.1; have HS10_ := hs_ hb hHeld.2.2.2.2.2.2.2.2.2.2.1; have HS11_ := hs_ hb hHeld.2.2.2.2.2.2.2.2.2.2.2.1; have HS12_ := hs_ hb hHeld.2.2.2.2.2.2.2.2.2.2.2.2.1; have HS13_ := hs_ hb hHeld.2.2.2.2.2.2.2.2.2.2.2.2.2.1; have HS14_ := hs_ hb hHeld.2.2.2.2.2.2.2.2.2.2.2.2.2.2.1; have HS15_ := hs_ hb hHeld.2.2.2.2.2.2.2.2.2.2.2.2.2.2.2.1; have HS16_ := hs_ hb hHeld.2.2.2.2.2.2.2.2.2.2.2.2.2.2.2.2.1; have HS17_ := hs_ hb hHeld.2.2.2.2.2.2.2.2.2.2.2.2.2.2.2.2.2
                 refine ⟨_, rfl, ?_⟩
                 replace HO_6 := Nb HO_6 hb
                 replace HL167_5 := Vb HL167_5 hb
                 replace HL168_5 := Vb HL168_5 hb
                 replace HL169_5 := Vb HL169_5 hb
                 replace HL170_5 := Vb HL170_5 hb
                 replace BK144 := kf BK144 hb
                 replace BK145 := kf BK145 hb
                 replace BK146 := kf BK146 hb
                 replace HR165_5 := Cb HR165_5 hb
                 replace HR167_5 := Cb HR167_5 hb
                 replace HR168_5 := Cb HR168_5 hb
                 replace HR169_5 := Cb HR169_5 hb
                 replace HR170_5 := Cb HR170_5 hb
                 replace HB := bs HB hb
                 (try clear hb)
                 (try clear hb2)
                 (try clear hk)
                 (try clear hi)
                 refine hK.out _ _ ⟨HS0_, HS1_, HS2_, HS3_, HS4_, HS5_, HS6_, HS7_, HS8_, HS9_, HS10_, HS11_, HS12_, HS13_, HS14_, HS15_, HS16_, HS17_⟩ (fun hHeld => ?_)
                 clear hK K
                 refine norm_ (a' := ?_) ?_ ?_
                 rotate_left
                 ·show Act.put _ (some 90) _ = _
                  simp only [Act.put, List.setIfInBounds_toArray, List.set_cons_zero, List.set_cons_succ, i64_w, i32_w]
                  rfl
                 refine pu_ (i := 8) (N := some 82) b5_29 HT_ ?_
                 refine pu_ (i := 9) (N := some 91) b5_27 HT_ ?_
                 refine pu_ (i := 10) (N := some 92) b5_25 HT_ ?_
                 refine pu_ (i := 11) (N := some 9) b5_22 HT_ ?_
                 refine pu_ (i := 12) (N := some 10) b5_19 HT_ ?_
                 refine done_ (done_of HT_.out KR) ?_
                 try go_wp2
                 go_meet
                 case rel => exact ⟨_, (x147000_3), (x147001_3), H', ⟨by have := HJ2.out; have := HK2.out; have := HK3.out; first | omega | exact Nat.le_refl _⟩, ⟨PN HO_6⟩, ⟨PK BK144⟩, ⟨PK BK145⟩, ⟨PK BK146⟩, ⟨PB⟩⟩
               ·rw [if_neg c69] at H
                have c69b0 : (!(((rd_T40 x6_2 x8_3).f0.f0) == ((rd_T40 x6_2 0).f0.f0)) || (!(((rd_T40 x6_2 x8_3).f0.f1) == ((rd_T40 x6_2 0).f0.f1)) || (!(((rd_T40 x6_2 x8_3).f0.f2) == ((rd_T40 x6_2 0).f0.f2))))) = false := by simpa using c69
                clear c69
                have H' := Aside0.mk H
                clear H
                try go_wp2
                replace HO_6 := ak (Kd.N_drew HO_6.out)
                replace BK144 := ak (blk_drew BK144.out)
                replace BK145 := ak (blk_drew BK145.out)
                replace BK146 := ak (blk_drew BK146.out)
                replace HR165_5 := ak (Kd.C_drew HR165_5.out)
                replace HB := ak (below_drew1 HB.out)
                have p167 : 0 ≤ (x8_3 : Int) := of_decide_eq_true (by first | (with_reducible assumption) | assumption)
                have q167 : x8_3 < (x6_2.length : Int) := of_decide_eq_true (by first | (with_reducible assumption) | assumption)
                obtain ⟨ad167, A167_5, c167_5, e167, hx167_0, hx167_1, hx167_2, hx167_3, hx167_4, hx167_5, hx167_6, hx167_7, hx167_8, hl167_5, hi167_5⟩ := at_T40 (Kd.N_reads' HO_6.out).2.2 x8_3 p167 q167
                obtain rfl : ad165 = ad167 := (by injection e167)
                obtain ⟨ce167, hce167, hMe167, hcc167⟩ := Kd.N_get HO_6.out z40 x8_3 p167 (by first | exact q167 | exact of_decide_eq_true (by first | (with_reducible assumption) | assumption) | (have e_ := (Kd.N_reads' HO_6.out).1; omega))
                obtain ⟨ua167_5, uc167_5, rfl, ul167_5, ge167_5⟩ := k40_openF hMe167
                have hv167_5 := hcc167 5 _ rfl
                rw [add_field _ _ 5 (by omega)] at hv167_5
                replace hv167_5 := Option.some.inj (hv167_5.symm.trans hx167_5)
                injection hv167_5 with hva_ hvn_ hvc_
                rw [hva_] at ge167_5
                rw [hvc_] at ul167_5
                have HL167_5 := ak (show Kd.V (Kd.int .i64) 3 _ w.heap.size _ _ ((rd_T40 x6_2 x8_3).f2.f1) from Kd.V_mk ul167_5 ge167_5)
                clear hva_ hvn_ hvc_ ge167_5 ul167_5
                clear hcc167 hce167
                have HR167_5 := Aside0.mk hi167_5
                have HC167_5 := Aside0.mk hl167_5
                clear hi167_5 hl167_5
                replace p167 := eq_true p167
                replace q167 := eq_true q167
                have p168 : 0 ≤ (0 : Int) := (by omega)
                have q168 : 0 < (x6_2.length : Int) := of_decide_eq_true (by first | (with_reducible assumption) | assumption)
                obtain ⟨ad168, A168_5, c168_5, e168, hx168_0, hx168_1, hx168_2, hx168_3, hx168_4, hx168_5, hx168_6, hx168_7, hx168_8, hl168_5, hi168_5⟩ := at_T40 (Kd.N_reads' HO_6.out).2.2 0 p168 q168
                obtain rfl : ad165 = ad168 := (by injection e168)
                obtain ⟨ce168, hce168, hMe168, hcc168⟩ := Kd.N_get HO_6.out z40 0 p168 (by first | exact q168 | exact of_decide_eq_true (by first | (with_reducible assumption) | assumption) | (have e_ := (Kd.N_reads' HO_6.out).1; omega))
                obtain ⟨ua168_5, uc168_5, rfl, ul168_5, ge168_5⟩ := k40_openF hMe168
                have hv168_5 := hcc168 5 _ rfl
                rw [add_field _ _ 5 (by omega)] at hv168_5
                replace hv168_5 := Option.some.inj (hv168_5.symm.trans hx168_5)
                injection hv168_5 with hva_ hvn_ hvc_
                rw [hva_] at ge168_5
                rw [hvc_] at ul168_5
                have HL168_5 := ak (show Kd.V (Kd.int .i64) 3 _ w.heap.size _ _ ((rd_T40 x6_2 0).f2.f1) from Kd.V_mk ul168_5 ge168_5)
                clear hva_ hvn_ hvc_ ge168_5 ul168_5
                clear hcc168 hce168
                have qi168 : (0 < x6_2.length) = True := eq_true (by omega)
                (try rw [show ((0 : Int)).toNat = 0 from rfl] at hx168_0)
                (try rw [show 0 * 9 = 0 from rfl] at hx168_0)
                (try rw [Addr.add_zero'] at hx168_0)
                (try rw [show ((0 : Int)).toNat = 0 from rfl] at hx168_1)
                (try rw [show 0 * 9 = 0 from rfl] at hx168_1)
                (try rw [Addr.add_zero'] at hx168_1)
                (try rw [show ((0 : Int)).toNat = 0 from rfl] at hx168_2)
                (try rw [show 0 * 9 = 0 from rfl] at hx168_2)
                (try rw [Addr.add_zero'] at hx168_2)
                (try rw [show ((0 : Int)).toNat = 0 from rfl] at hx168_3)
                (try rw [show 0 * 9 = 0 from rfl] at hx168_3)
                (try rw [Addr.add_zero'] at hx168_3)
                (try rw [show ((0 : Int)).toNat = 0 from rfl] at hx168_4)
                (try rw [show 0 * 9 = 0 from rfl] at hx168_4)
                (try rw [Addr.add_zero'] at hx168_4)
                (try rw [show ((0 : Int)).toNat = 0 from rfl] at hx168_5)
                (try rw [show 0 * 9 = 0 from rfl] at hx168_5)
                (try rw [Addr.add_zero'] at hx168_5)
                (try rw [show ((0 : Int)).toNat = 0 from rfl] at hx168_6)
                (try rw [show 0 * 9 = 0 from rfl] at hx168_6)
                (try rw [Addr.add_zero'] at hx168_6)
                (try rw [show ((0 : Int)).toNat = 0 from rfl] at hx168_7)
                (try rw [show 0 * 9 = 0 from rfl] at hx168_7)
                (try rw [Addr.add_zero'] at hx168_7)
                (try rw [show ((0 : Int)).toNat = 0 from rfl] at hx168_8)
                (try rw [show 0 * 9 = 0 from rfl] at hx168_8)
                (try rw [Addr.add_zero'] at hx168_8)
                have HR168_5 := Aside0.mk hi168_5
                have HC168_5 := Aside0.mk hl168_5
                clear hi168_5 hl168_5
                replace p168 := eq_true p168
                replace q168 := eq_true q168
                refine start_ (n := 10) (S := fun w' => w'.cell? (ad165.add ((x8_3).toNat * 9)) = some (.int .i64 ((rd_T40 x6_2 x8_3).f0.f0)) ∧ w'.cell? ⟨(ad165.add ((x8_3).toNat * 9)).block, (ad165.add ((x8_3).toNat * 9)).off + 1, none⟩ = some (.int .i64 ((rd_T40 x6_2 x8_3).f0.f1)) ∧ w'.cell? ⟨(ad165.add ((x8_3).toNat * 9)).block, (ad165.add ((x8_3).toNat * 9)).off + 2, none⟩ = some (.int .i64 ((rd_T40 x6_2 x8_3).f0.f2)) ∧ w'.cell? ⟨(ad165.add ((x8_3).toNat * 9)).block, (ad165.add ((x8_3).toNat * 9)).off + 3, none⟩ = some (.int .i64 ((rd_T40 x6_2 x8_3).f1)) ∧ w'.cell? ⟨(ad165.add ((x8_3).toNat * 9)).block, (ad165.add ((x8_3).toNat * 9)).off + 4, none⟩ = some (.int .i64 ((rd_T40 x6_2 x8_3).f2.f0)) ∧ w'.cell? ⟨(ad165.add ((x8_3).toNat * 9)).block, (ad165.add ((x8_3).toNat * 9)).off + 5, none⟩ = some (.slice A167_5 ((rd_T40 x6_2 x8_3).f2.f1).length c167_5) ∧ w'.cell? ⟨(ad165.add ((x8_3).toNat * 9)).block, (ad165.add ((x8_3).toNat * 9)).off + 6, none⟩ = some (.int .i64 ((rd_T40 x6_2 x8_3).f2.f2.f0)) ∧ w'.cell? ⟨(ad165.add ((x8_3).toNat * 9)).block, (ad165.add ((x8_3).toNat * 9)).off + 7, none⟩ = some (.int .i64 ((rd_T40 x6_2 x8_3).f2.f2.f1)) ∧ w'.cell? ⟨(ad165.add ((x8_3).toNat * 9)).block, (ad165.add ((x8_3).toNat * 9)).off + 8, none⟩ = some (.int .i64 ((rd_T40 x6_2 x8_3).f2.f2.f2)) ∧ w'.cell? ad165 = some (.int .i64 ((rd_T40 x6_2 0).f0.f0)) ∧ w'.cell? ⟨ad165.block, ad165.off + 1, none⟩ = some (.int .i64 ((rd_T40 x6_2 0).f0.f1)) ∧ w'.cell? ⟨ad165.block, ad165.off + 2, none⟩ = some (.int .i64 ((rd_T40 x6_2 0).f0.f2)) ∧ w'.cell? ⟨ad165.block, ad165.off + 3, none⟩ = some (.int .i64 ((rd_T40 x6_2 0).f1)) ∧ w'.cell? ⟨ad165.block, ad165.off + 4, none⟩ = some (.int .i64 ((rd_T40 x6_2 0).f2.f0)) ∧ w'.cell? ⟨ad165.block, ad165.off + 5, none⟩ = some (.slice A168_5 ((rd_T40 x6_2 0).f2.f1).length c168_5) ∧ w'.cell? ⟨ad165.block, ad165.off + 6, none⟩ = some (.int .i64 ((rd_T40 x6_2 0).f2.f2.f0)) ∧ w'.cell? ⟨ad165.block, ad165.off + 7, none⟩ = some (.int .i64 ((rd_T40 x6_2 0).f2.f2.f1)) ∧ w'.cell? ⟨ad165.block, ad165.off + 8, none⟩ = some (.int .i64 ((rd_T40 x6_2 0).f2.f2.f2))) (ds := []) b5_10 KR rfl rfl ⟨hx167_0, hx167_1, hx167_2, hx167_3, hx167_4, hx167_5, hx167_6, hx167_7, hx167_8, hx168_0, hx168_1, hx168_2, hx168_3, hx168_4, hx168_5, hx168_6, hx168_7, hx168_8⟩ (fun hHeld => ?_); refine with_tabW spec_LearnForm.tab18 spec_LearnForm.bits18 (fun HT_ HW_ => ?_)
                generalize wr.drew = w81 at HO_6 BK144 BK145 BK146 HR165_5 HB HL167_5 HL168_5 HR167_5 HR168_5 hx167_0 hx167_1 hx167_2 hx167_3 hx167_4 hx167_5 hx167_6 hx167_7 hx167_8 hx168_0 hx168_1 hx168_2 hx168_3 hx168_4 hx168_5 hx168_6 hx168_7 hx168_8 hHeld ⊢
                refine pu_ (i := 0) (N := some 72) b5_9 HT_ ?_
                refine pu_ (i := 1) (N := some 73) b5_8 HT_ ?_
                refine pu_ (i := 2) (N := some 74) b5_7 HT_ ?_
                refine pu_ (i := 3) (N := some 75) b5_6 HT_ ?_
                refine pu_ (i := 5) (N := some 77) b5_5 HT_ ?_
                refine pu_ (i := 6) (N := some 78) b5_4 HT_ ?_
                refine pu_ (i := 7) (N := some 79) b5_3 HT_ ?_
                refine tk_ (i := 4) (N := some 76) b5_2 rfl rfl HT_ HW_ hHeld ?_
                refine take_ (i := 8) (N := some 80) (v := ?_) (a' := ?_) b5_1 rfl rfl (take_ofW HT_.out HW_.out KR) (fun _ _ _ h => h) (Or.inl ⟨by rfl, ?_⟩) hHeld ?_ ?_
                rotate_left
                ·rintro w' ⟨s0, s1, s2, s3, s4, s5, s6, s7, s8, s9, s10, s11, s12, s13, s14, s15, s16, s17⟩
                 go_simp
                 with_reducible rfl
                rotate_left
                ·simp only [Act.put, List.setIfInBounds_toArray, List.set_cons_zero, List.set_cons_succ, i64_w, i32_w]
                 rfl
                refine pu_ (i := 9) (N := some 81) b5_0 HT_ ?_
                refine done_ (done_of HT_.out KR) ?_
                try go_wp2
                go_roundg k3
                case measure => have := HJ2.out; have := HK2.out; have := HK3.out; omega
                case rel => exact ⟨(wrap64 (x8_3 + 1)), (x147000_3), (x147001_3), (by first | rfl | (simp; done) | (simp [*]; done)), H', ⟨by have := HJ2.out; have := HK2.out; have := HK3.out; omega⟩, ⟨PN HO_6⟩, ⟨PK BK144⟩, ⟨PK BK145⟩, ⟨PK BK146⟩, ⟨by repeat (first | (with_reducible exact HR165_5.out) | (with_reducible refine Kd.C_alloc ?_ _) | (with_reducible refine Kd.C_drewN ?_ _) | (with_reducible refine Kd.C_drew ?_) | exact HR165_5.out)⟩, ⟨PB⟩⟩
              ·rw [if_neg c68] at H
               exact absurd H (by simp)
             ·rw [if_neg c67] at H
              exact absurd H (by simp)
            ·rw [if_neg c66] at H
             have c66b0 : decide (x8_3 < (x6_2.length : Int)) = false := decide_eq_false c66
             clear c66
             (first | rw [c66b0] | (simp only [i64_w, i32_w]; rw [c66b0]) | skip)
             have H' := Aside0.mk H
             clear H
             go_wp2
             go_meet
             case rel => exact ⟨_, (x147000_3), (x147001_3), H', ⟨by have := HJ2.out; have := HK2.out; have := HK3.out; first | omega | exact Nat.le_refl _⟩, ⟨PN HO_6⟩, ⟨PK BK144⟩, ⟨PK BK145⟩, ⟨PK BK146⟩, ⟨PB⟩⟩
         case rest =>
          clear HC56
          (try clear c1); (try clear p1); (try clear q1); (try clear hx1); (try clear qi1); (try clear p2); (try clear c6); (try clear p6); (try clear c11); (try clear c16); (try clear p16); (try clear q16); (try clear hx16); (try clear qi16); (try clear c17); (try clear p17); (try clear q17); (try clear hx17); (try clear p64); (try clear c66); (try clear c66b0); (try clear c67); (try clear c68); (try clear c69); (try clear c69b0); (try clear hx167_0); (try clear hx167_1); (try clear hx167_2); (try clear hx167_3); (try clear hx167_4); (try clear hx167_5); (try clear hx167_6); (try clear hx167_7); (try clear hx167_8); (try clear hx168_0); (try clear hx168_1); (try clear hx168_2); (try clear hx168_3); (try clear hx168_4); (try clear hx168_5); (try clear hx168_6); (try clear hx168_7); (try clear hx168_8); (try clear hx169_0); (try clear hx169_1); (try clear hx169_2); (try clear hx169_3); (try clear hx169_4); (try clear hx169_5); (try clear hx169_6); (try clear hx169_7); (try clear hx169_8); (try clear hx170_0); (try clear hx170_1); (try clear hx170_2); (try clear hx170_3); (try clear hx170_4); (try clear hx170_5); (try clear hx170_6); (try clear hx170_7); (try clear hx170_8); (try clear p167); (try clear p168); (try clear p169); (try clear p170); (try clear q167); (try clear q168); (try clear q169); (try clear q170)
          obtain ⟨kq, x147000_55, x147001_55, HA, HJ55, HO_6, BK144, BK145, BK146, HB⟩ := hcut
          cases kq with
          | zero => exact absurd HA.out (by simp [spec_LearnForm.j3])
          | succ kj55 =>
           have H := HA.out
           clear HA
           simp only [spec_LearnForm.j3] at H
           have H' := Aside0.mk H
           clear H
           go_wp2
           go_loopg [11] kj55 (fun kq v11 w' => ∃ (x11_4 : Int) (x147003_4 : Bool), v11 = .int .i64 x11_4 ∧ Aside0 (spec_LearnForm.l2 kq x6_2 x11_4 x147000_55 x147001_55 (x6_2.length : Int) x147003_4 = some (r1, r2, r3, r4)) ∧ Aside0 (kq ≤ kj55) ∧ Aside0 (Kd.N k40 40 w' w.heap.size (fun k_ => (P0_ k_ ∨ w.heap.size ≤ k_) ∧ k_ ≠ gb144 ∧ k_ ≠ gb145 ∧ k_ ≠ gb146) (.slice (some ad165) x6_2.length co57) x6_2) ∧ Aside0 (w'.heap[gb144]? = some (.cells #[.int .i64 a1_0, .int .i64 a1_1, .int .i64 a1_2] 26 (0, 0))) ∧ Aside0 (w'.heap[gb145]? = some (.cells #[.int .i64 0, .int .i64 0, .int .i64 0, .bool false] 85 (0, 0))) ∧ Aside0 (w'.heap[gb146]? = some (.cells #[.int .i64 x147000_55, .int .i64 x147001_55, .int .i64 (x6_2.length : Int), .bool x147003_4] 85 (0, 0))) ∧ Aside0 (Below w.heap.size w w'))
           case atStart => exact ⟨(0), (true), (by first | rfl | (simp; done) | (simp [*]; done)), H', ⟨Nat.le_refl _⟩, ⟨PN HO_6⟩, ⟨PK BK144⟩, ⟨PK BK145⟩, ⟨PK BK146⟩, ⟨PB⟩⟩
           case round =>
            clear H'
            (try clear c1); (try clear p1); (try clear q1); (try clear hx1); (try clear qi1); (try clear p2); (try clear c6); (try clear p6); (try clear c11); (try clear c16); (try clear p16); (try clear q16); (try clear hx16); (try clear qi16); (try clear c17); (try clear p17); (try clear q17); (try clear hx17); (try clear p64); (try clear c66); (try clear c66b0); (try clear c67); (try clear c68); (try clear c69); (try clear c69b0); (try clear hx167_0); (try clear hx167_1); (try clear hx167_2); (try clear hx167_3); (try clear hx167_4); (try clear hx167_5); (try clear hx167_6); (try clear hx167_7); (try clear hx167_8); (try clear hx168_0); (try clear hx168_1); (try clear hx168_2); (try clear hx168_3); (try clear hx168_4); (try clear hx168_5); (try clear hx168_6); (try clear hx168_7); (try clear hx168_8); (try clear hx169_0); (try clear hx169_1); (try clear hx169_2); (try clear hx169_3); (try clear hx169_4); (try clear hx169_5); (try clear hx169_6); (try clear hx169_7); (try clear hx169_8); (try clear hx170_0); (try clear hx170_1); (try clear hx170_2); (try clear hx170_3); (try clear hx170_4); (try clear hx170_5); (try clear hx170_6); (try clear hx170_7); (try clear hx170_8); (try clear p1); (try clear p16); (try clear p167); (try clear p168); (try clear p169); (try clear p17); (try clear p170); (try clear p2); (try clear p6); (try clear p64); (try clear q1); (try clear q16); (try clear q167); (try clear q168); (try clear q169); (try clear q17); (try clear q170)
            obtain ⟨x11_4, x147003_4, rfl, HA, HK4, HO_6, BK144, BK145, BK146, HB⟩ := hrel
            cases gk with
            | zero => exact absurd HA.out (by simp [spec_LearnForm.l2])
            | succ k4 =>
             have H := HA.out
             clear HA
             simp only [spec_LearnForm.l2] at H
             by_cases c82 : x11_4 < (x6_2.length : Int)
             ·rw [if_pos c82] at H
              have c82b0 : decide (x11_4 < (x6_2.length : Int)) = true := decide_eq_true c82
              clear c82
              by_cases c83 : x147003_4 = true
              ·subst c83
               have H1 : (if 0 ≤ x11_4 then ((spec_FitsForm.f k4 x147000_55 x147001_55 (x6_2.length : Int) true ((rd_T40 x6_2 x11_4).f0.f0) ((rd_T40 x6_2 x11_4).f0.f1) ((rd_T40 x6_2 x11_4).f0.f2) ((rd_T40 x6_2 x11_4).f1) ((rd_T40 x6_2 x11_4).f2.f0) ((rd_T40 x6_2 x11_4).f2.f1) ((rd_T40 x6_2 x11_4).f2.f2.f0) ((rd_T40 x6_2 x11_4).f2.f2.f1) ((rd_T40 x6_2 x11_4).f2.f2.f2)).bind fun t174 => (spec_LearnForm.l2 k4 x6_2 (wrap64 (x11_4 + 1)) x147000_55 x147001_55 (x6_2.length : Int) t174)) else (none)) = some (r1, r2, r3, r4) := by rw [if_pos rfl] at H; exact H
               clear H
               have H := H1
               clear H1
               by_cases c84 : 0 ≤ x11_4
               ·rw [if_pos c84] at H
                have c84b0 : decide (0 ≤ x11_4) = true := decide_eq_true c84
                clear c84
                replace H := Option.bind_eq_some_iff.mp H
                obtain ⟨t174, A850, H⟩ := H
                replace H : (spec_LearnForm.l2 k4 x6_2 (wrap64 (x11_4 + 1)) x147000_55 x147001_55 (x6_2.length : Int) t174) = some (r1, r2, r3, r4) := H
                have A85 := Aside0.mk A850
                clear A850
                have H' := Aside0.mk H
                clear H
                try go_wp2
                replace HO_6 := ak (Kd.N_drew HO_6.out)
                replace BK144 := ak (blk_drew BK144.out)
                replace BK145 := ak (blk_drew BK145.out)
                replace BK146 := ak (blk_drew BK146.out)
                replace HB := ak (below_drew1 HB.out)
                have p173 : 0 ≤ (x11_4 : Int) := of_decide_eq_true (by first | (with_reducible assumption) | assumption)
                have q173 : x11_4 < (x6_2.length : Int) := of_decide_eq_true (by first | (with_reducible assumption) | assumption)
                obtain ⟨ad173, A173_5, c173_5, e173, hx173_0, hx173_1, hx173_2, hx173_3, hx173_4, hx173_5, hx173_6, hx173_7, hx173_8, hl173_5, hi173_5⟩ := at_T40 (Kd.N_reads' HO_6.out).2.2 x11_4 p173 q173
                obtain rfl : ad165 = ad173 := (by injection e173)
                obtain ⟨ce173, hce173, hMe173, hcc173⟩ := Kd.N_get HO_6.out z40 x11_4 p173 (by first | exact q173 | exact of_decide_eq_true (by first | (with_reducible assumption) | assumption) | (have e_ := (Kd.N_reads' HO_6.out).1; omega))
                obtain ⟨ua173_5, uc173_5, rfl, ul173_5, ge173_5⟩ := k40_openF hMe173
                have hv173_5 := hcc173 5 _ rfl
                rw [add_field _ _ 5 (by omega)] at hv173_5
                replace hv173_5 := Option.some.inj (hv173_5.symm.trans hx173_5)
                injection hv173_5 with hva_ hvn_ hvc_
                rw [hva_] at ge173_5
                rw [hvc_] at ul173_5
                have HL173_5 := ak (show Kd.V (Kd.int .i64) 3 _ w.heap.size _ _ ((rd_T40 x6_2 x11_4).f2.f1) from Kd.V_mk ul173_5 ge173_5)
                clear hva_ hvn_ hvc_ ge173_5 ul173_5
                clear hcc173 hce173
                have HR173_5 := Aside0.mk hi173_5
                have HC173_5 := Aside0.mk hl173_5
                clear hi173_5 hl173_5
                replace p173 := eq_true p173
                replace q173 := eq_true q173
                refine start_ (n := 12) (S := fun w' => w'.cell? ⟨gb146, 0, none⟩ = some (.int .i64 x147000_55) ∧ w'.cell? ⟨gb146, 1, none⟩ = some (.int .i64 x147001_55) ∧ w'.cell? ⟨gb146, 2, none⟩ = some (.int .i64 (x6_2.length : Int)) ∧ w'.cell? ⟨gb146, 3, none⟩ = some (.bool true) ∧ w'.cell? (ad165.add ((x11_4).toNat * 9)) = some (.int .i64 ((rd_T40 x6_2 x11_4).f0.f0)) ∧ w'.cell? ⟨(ad165.add ((x11_4).toNat * 9)).block, (ad165.add ((x11_4).toNat * 9)).off + 1, none⟩ = some (.int .i64 ((rd_T40 x6_2 x11_4).f0.f1)) ∧ w'.cell? ⟨(ad165.add ((x11_4).toNat * 9)).block, (ad165.add ((x11_4).toNat * 9)).off + 2, none⟩ = some (.int .i64 ((rd_T40 x6_2 x11_4).f0.f2)) ∧ w'.cell? ⟨(ad165.add ((x11_4).toNat * 9)).block, (ad165.add ((x11_4).toNat * 9)).off + 3, none⟩ = some (.int .i64 ((rd_T40 x6_2 x11_4).f1)) ∧ w'.cell? ⟨(ad165.add ((x11_4).toNat * 9)).block, (ad165.add ((x11_4).toNat * 9)).off + 4, none⟩ = some (.int .i64 ((rd_T40 x6_2 x11_4).f2.f0)) ∧ w'.cell? ⟨(ad165.add ((x11_4).toNat * 9)).block, (ad165.add ((x11_4).toNat * 9)).off + 5, none⟩ = some (.slice A173_5 ((rd_T40 x6_2 x11_4).f2.f1).length c173_5) ∧ w'.cell? ⟨(ad165.add ((x11_4).toNat * 9)).block, (ad165.add ((x11_4).toNat * 9)).off + 6, none⟩ = some (.int .i64 ((rd_T40 x6_2 x11_4).f2.f2.f0)) ∧ w'.cell? ⟨(ad165.add ((x11_4).toNat * 9)).block, (ad165.add ((x11_4).toNat * 9)).off + 7, none⟩ = some (.int .i64 ((rd_T40 x6_2 x11_4).f2.f2.f1)) ∧ w'.cell? ⟨(ad165.add ((x11_4).toNat * 9)).block, (ad165.add ((x11_4).toNat * 9)).off + 8, none⟩ = some (.int .i64 ((rd_T40 x6_2 x11_4).f2.f2.f2))) (ds := [11]) b5_32 KR rfl rfl ⟨(blk_cell BK146.out 0).trans rfl, (blk_cell BK146.out 1).trans rfl, (blk_cell BK146.out 2).trans rfl, (blk_cell BK146.out 3).trans rfl, hx173_0, hx173_1, hx173_2, hx173_3, hx173_4, hx173_5, hx173_6, hx173_7, hx173_8⟩ (fun hHeld => ?_); refine with_tabW spec_LearnForm.tab26 spec_LearnForm.bits26 (fun HT_ HW_ => ?_)
                generalize wr.drew = w86 at HO_6 BK144 BK145 BK146 HB HL173_5 HR173_5 hx173_0 hx173_1 hx173_2 hx173_3 hx173_4 hx173_5 hx173_6 hx173_7 hx173_8 hHeld ⊢
                refine pu_ (i := 0) (N := some 105) b5_30 HT_ ?_
                refine tk_ (i := 1) (N := some 106) b5_28 rfl rfl HT_ HW_ hHeld ?_
                refine pu_ (i := 2) (N := some 107) b5_26 HT_ ?_
                refine pu_ (i := 4) (N := some 109) #[true, true, true, false, true, false, false, false, false, false, false, false] HT_ ?_
                refine pu_ (i := 5) (N := some 110) #[true, true, true, false, true, true, false, false, false, false, false, false] HT_ ?_
                refine pu_ (i := 6) (N := some 111) #[true, true, true, false, true, true, true, false, false, false, false, false] HT_ ?_
                refine tk_ (i := 3) (N := some 108) b5_16 rfl rfl HT_ HW_ hHeld ?_
                refine take_ (i := 7) (N := some 112) (v := ?_) (a' := ?_) b5_15 rfl rfl (take_ofW HT_.out HW_.out KR) (fun _ _ _ h => h) (Or.inl ⟨by rfl, ?_⟩) hHeld ?_ ?_
                rotate_left
                ·rintro w' ⟨s0, s1, s2, s3, s4, s5, s6, s7, s8, s9, s10, s11, s12⟩
                 go_simp
                 with_reducible rfl
                rotate_left
                ·simp only [Act.put, List.setIfInBounds_toArray, List.set_cons_zero, List.set_cons_succ, i64_w, i32_w]
                 rfl
                refine one_ (i := 8) (N := some 113) b5_14 rfl rfl (one_of HT_.out KR) (by decide) (fun K hK => ?_)
                refine goes_ Try.func113 KR rfl #[.agg #[.int .i64 x147000_55, .int .i64 x147001_55, .int .i64 (x6_2.length : Int), .bool true], .agg #[.int .i64 ((rd_T40 x6_2 x11_4).f0.f0), .int .i64 ((rd_T40 x6_2 x11_4).f0.f1), .int .i64 ((rd_T40 x6_2 x11_4).f0.f2), .int .i64 ((rd_T40 x6_2 x11_4).f1), .int .i64 ((rd_T40 x6_2 x11_4).f2.f0), .slice A173_5 ((rd_T40 x6_2 x11_4).f2.f1).length c173_5, .int .i64 ((rd_T40 x6_2 x11_4).f2.f2.f0), .int .i64 ((rd_T40 x6_2 x11_4).f2.f2.f1), .int .i64 ((rd_T40 x6_2 x11_4).f2.f2.f2)]] (by rfl) rfl rfl AR ?_
                with_reducible refine (spec_FitsForm.calls k4 x147000_55 x147001_55 (x6_2.length : Int) true ((rd_T40 x6_2 x11_4).f0.f0) ((rd_T40 x6_2 x11_4).f0.f1) ((rd_T40 x6_2 x11_4).f0.f2) ((rd_T40 x6_2 x11_4).f1) ((rd_T40 x6_2 x11_4).f2.f0) _ _ ((rd_T40 x6_2 x11_4).f2.f1) ((rd_T40 x6_2 x11_4).f2.f2.f0) ((rd_T40 x6_2 x11_4).f2.f2.f1) ((rd_T40 x6_2 x11_4).f2.f2.f2) t174 _ ?side1 ?side2 A85.out).mono ?_
                (case side1 => repeat (first | exact (PC HR173_5) | (with_reducible refine Kd.C_alloc ?_ _) | (with_reducible refine Kd.C_drewN ?_ _) | (with_reducible refine Kd.C_drew ?_)))
                (case side2 => exact HC173_5.out)
                rintro e w87 ⟨rfl, hb⟩
                have HS4_ := hs_ hb hHeld.2.2.2.2.1; have HS5_ := hs_ hb hHeld.2.2.2.2.2.1; have HS6_ := hs_ hb hHeld.2.2.2.2.2.2.1; have HS7_ := hs_ hb hHeld.2.2.2.2.2.2.2.1; have HS8_ := hs_ hb hHeld.2.2.2.2.2.2.2.2.1; have HS9_ := hs_ hb hHeld.2.2.2.2.2.2.2.2.2.1; have HS10_ := hs_ hb hHeld.2.2.2.2.2.2.2.2.2.2.1; have HS11_ := hs_ hb hHeld.2.2.2.2.2.2.2.2.2.2.2.1; have HS12_ := hs_ hb hHeld.2.2.2.2.2.2.2.2.2.2.2.2
                refine ⟨_, rfl, ?_⟩
                replace HO_6 := Nb HO_6 hb
                replace HL173_5 := Vb HL173_5 hb
                replace BK144 := kf BK144 hb
                replace BK145 := kf BK145 hb
                replace BK146 := kf BK146 hb
                replace HR173_5 := Cb HR173_5 hb
                replace HB := bs HB hb
                (try clear hb)
                (try clear hb2)
                (try clear hk)
                (try clear hi)
                refine hK.out _ _ ⟨(blk_cell BK146.out 0).trans rfl, (blk_cell BK146.out 1).trans rfl, (blk_cell BK146.out 2).trans rfl, (blk_cell BK146.out 3).trans rfl, HS4_, HS5_, HS6_, HS7_, HS8_, HS9_, HS10_, HS11_, HS12_⟩ (fun hHeld => ?_)
                clear hK K
                refine norm_ (a' := ?_) ?_ ?_
                rotate_left
                ·show Act.put _ (some 113) _ = _
                 simp only [Act.put, List.setIfInBounds_toArray, List.set_cons_zero, List.set_cons_succ, i64_w, i32_w]
                 rfl
                refine pu_ (i := 9) (N := some 114) b5_13 HT_ ?_
                refine pu_ (i := 10) (N := some 115) b5_12 HT_ ?_
                refine last_ (i := 11) (N := none) b5_11 rfl rfl (one_of HT_.out KR) (by decide) (fun K hK => ?_)
                have hs88 : w87.cell? ⟨gb146, 3, none⟩ = some (.bool true) := (blk_cell BK146.out 3).trans rfl
                have hfs88 := blk_frozen BK146.out 3
                have hns88_0 := NB144_146.out
                have hns88_1 := NB145_146.out
                have hms88_0 := NB146_144.out
                have hms88_1 := NB146_145.out
                refine skip_ (w1 := ?_) (by rfl) rfl ?_ ?_
                rotate_left
                ·go_simp
                 rfl
                refine hK.out _ _ ?_
                clear hK K
                refine done_ (done_of HT_.out KR) ?_
                try go_wp2
                go_roundg k4
                case measure => have := HJ2.out; have := HK2.out; have := HJ55.out; have := HK4.out; omega
                case rel => exact ⟨(wrap64 (x11_4 + 1)), (t174), (by first | rfl | (simp; done) | (simp [*]; done)), H', ⟨by have := HJ2.out; have := HK2.out; have := HJ55.out; have := HK4.out; omega⟩, ⟨NX (Kd.N_mono HO_6.out (fun k_ hk => (⟨hk, hk.2.2.2⟩ : _ ∧ k_ ≠ gb146))) (fun _ hk => ⟨hk.1.1, ⟨hk.1.2.1, ⟨hk.1.2.2.1, hk.1.2.2.2⟩⟩⟩)⟩, ⟨PF BK144⟩, ⟨PF BK145⟩, ⟨PX BK146⟩, ⟨PB⟩⟩
               ·rw [if_neg c84] at H
                exact absurd H (by simp)
              ·replace c83 := Bool.eq_false_iff.mpr c83
               subst c83
               have H1 : (spec_LearnForm.l2 k4 x6_2 (wrap64 (x11_4 + 1)) x147000_55 x147001_55 (x6_2.length : Int) false) = some (r1, r2, r3, r4) := by rw [if_neg (show ¬ (false = true) by decide)] at H; exact H
               clear H
               have H := H1
               clear H1
               have H' := Aside0.mk H
               clear H
               try go_wp2
               replace HO_6 := ak (Kd.N_drew HO_6.out)
               replace BK144 := ak (blk_drew BK144.out)
               replace BK145 := ak (blk_drew BK145.out)
               replace BK146 := ak (blk_drew BK146.out)
               replace HB := ak (below_drew1 HB.out)
               refine start_ (n := 12) (S := fun w' => w'.cell? ⟨gb146, 0, none⟩ = some (.int .i64 x147000_55) ∧ w'.cell? ⟨gb146, 1, none⟩ = some (.int .i64 x147001_55) ∧ w'.cell? ⟨gb146, 2, none⟩ = some (.int .i64 (x6_2.length : Int)) ∧ w'.cell? ⟨gb146, 3, none⟩ = some (.bool false)) (ds := [11]) b5_32 KR rfl rfl ⟨(blk_cell BK146.out 0).trans rfl, (blk_cell BK146.out 1).trans rfl, (blk_cell BK146.out 2).trans rfl, (blk_cell BK146.out 3).trans rfl⟩ (fun hHeld => ?_); refine with_tabW spec_LearnForm.tab26 spec_LearnForm.bits26 (fun HT_ HW_ => ?_)
               generalize wr.drew = w89 at HO_6 BK144 BK145 BK146 HB hHeld ⊢
               refine pu_ (i := 0) (N := some 105) b5_30 HT_ ?_
               refine tk_ (i := 1) (N := some 106) b5_28 rfl rfl HT_ HW_ hHeld ?_
               refine pu_ (i := 2) (N := some 107) b5_26 HT_ ?_
               refine un_ (i := 3) (N := some 108) #[true, true, true, true, false, false, false, false, false, false, false, false] HT_ ?_
               refine un_ (i := 4) (N := some 109) #[true, true, true, true, true, false, false, false, false, false, false, false] HT_ ?_
               refine un_ (i := 5) (N := some 110) #[true, true, true, true, true, true, false, false, false, false, false, false] HT_ ?_
               refine un_ (i := 6) (N := some 111) b5_16 HT_ ?_
               refine un_ (i := 7) (N := some 112) b5_15 HT_ ?_
               refine un_ (i := 8) (N := some 113) b5_14 HT_ ?_
               refine pu_ (i := 9) (N := some 114) b5_13 HT_ ?_
               refine pu_ (i := 10) (N := some 115) b5_12 HT_ ?_
               refine last_ (i := 11) (N := none) b5_11 rfl rfl (one_of HT_.out KR) (by decide) (fun K hK => ?_)
               have hs90 : w89.cell? ⟨gb146, 3, none⟩ = some (.bool false) := (blk_cell BK146.out 3).trans rfl
               have hfs90 := blk_frozen BK146.out 3
               have hns90_0 := NB144_146.out
               have hns90_1 := NB145_146.out
               have hms90_0 := NB146_144.out
               have hms90_1 := NB146_145.out
               refine skip_ (w1 := ?_) (by rfl) rfl ?_ ?_
               rotate_left
               ·go_simp
                rfl
               refine hK.out _ _ ?_
               clear hK K
               refine done_ (done_of HT_.out KR) ?_
               try go_wp2
               go_roundg k4
               case measure => have := HJ2.out; have := HK2.out; have := HJ55.out; have := HK4.out; omega
               case rel => exact ⟨(wrap64 (x11_4 + 1)), (false), (by first | rfl | (simp; done) | (simp [*]; done)), H', ⟨by have := HJ2.out; have := HK2.out; have := HJ55.out; have := HK4.out; omega⟩, ⟨NX (Kd.N_mono HO_6.out (fun k_ hk => (⟨hk, hk.2.2.2⟩ : _ ∧ k_ ≠ gb146))) (fun _ hk => ⟨hk.1.1, ⟨hk.1.2.1, ⟨hk.1.2.2.1, hk.1.2.2.2⟩⟩⟩)⟩, ⟨PF BK144⟩, ⟨PF BK145⟩, ⟨PX BK146⟩, ⟨PB⟩⟩
             ·rw [if_neg c82] at H
              have c82b0 : decide (x11_4 < (x6_2.length : Int)) = false := decide_eq_false c82
              clear c82
              simp only [Option.some.injEq, Prod.mk.injEq] at H
              obtain ⟨rfl, rfl, rfl, rfl⟩ := H
              have hnb91 := NB146_144.out
              have hnc91 := NB144_146.out
              have hnb92 := NB146_145.out
              have hnc92 := NB145_146.out
              obtain ⟨_, _, _, _, _, _, _, _⟩ := bc4 BK146
              have hnb94 := NB145_144.out
              have hnc94 := NB144_145.out
              obtain ⟨_, _, _, _, _, _, _, _⟩ := bc4 BK145
              go_wp2
              refine bodyPost_ret (results_cell_row rfl _ _ gb145 85 #[.int .i64 x147000_55, .int .i64 x147001_55, .int .i64 (x6_2.length : Int), .bool x147003_4] (0, 0) _ rfl (PX BK145) Try.underlying85 rfl KR) rfl ?_
              exact ⟨RT, PB⟩
        ·rw [if_neg c54] at H
         exact absurd H (by simp)

end Go.Proofs.Ytgcamebeonodeaa.MFnExactLearnForm
