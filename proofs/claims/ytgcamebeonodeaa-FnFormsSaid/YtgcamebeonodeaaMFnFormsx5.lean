-- Written by a program of this session out of the translation's own print. Not trusted: Lean checks it.
import Derived.Test.YtgcamebeonodeaaShr2
import Derived.Test.YtgcamebeonodeaaMFnFormsx0
import Derived.Test.YtgcamebeonodeaaMFnFormsx3
import Derived.Test.YtgcamebeonodeaaMFnFormsx4
namespace Go.Proofs.Ytgcamebeonodeaa.MFnForms
open Go.RowKit Go.Proofs.YtgcamebeonodeaaW.PrintWords Go.Proofs.YtgcamebeonodeaaW.PrintLast Go.Proofs.YtgcamebeonodeaaW.PrintMore
attribute [local go_sem] max2_int min2_int max_two min_two max_three min_three max_four min_four   -- for this text's walks alone
set_option linter.unusedVariables false
set_option linter.unusedSimpArgs false

abbrev b5_0 : Array Bool := #[true, true, true, true, true, true, true, true, true]
abbrev b5_1 : Array Bool := #[true, true, true, true, true, true, true, true, false]
abbrev b5_2 : Array Bool := #[true, true, true, true, true, true, true, false, false]
abbrev b5_3 : Array Bool := #[true, true, true, true, false, true, true, false, false]
abbrev b5_4 : Array Bool := #[true, true, true, true, false, true, false, false, false]
abbrev b5_5 : Array Bool := #[true, true, true, false, false, true, false, false, false]
abbrev b5_6 : Array Bool := #[false, true, true, false, false, true, false, false, false]
abbrev b5_7 : Array Bool := #[false, true, true, false, false, false, false, false, false]
abbrev b5_8 : Array Bool := #[false, true, false, false, false, false, false, false, false]
abbrev b5_9 : Array Bool := #[false, false, false, false, false, false, false, false, false]
abbrev b5_23 : Array Bool := mkB 15 32767
abbrev b5_24 : Array Bool := mkB 15 16383
abbrev b5_25 : Array Bool := mkB 15 8191
abbrev b5_26 : Array Bool := mkB 15 4095
abbrev b5_27 : Array Bool := mkB 15 2047
abbrev b5_28 : Array Bool := mkB 15 1023
abbrev b5_41 : Array Bool := mkB 15 7
abbrev b5_42 : Array Bool := mkB 15 3
abbrev b5_43 : Array Bool := mkB 15 1
abbrev b5_44 : Array Bool := #[false, false, false, false, false, false, false, false, false, false, false, false, false, false, false]
/-! ### impl_LearnForm: function 51 -/
mutual
def impl_LearnForm.j0 : Nat → List (S40) → Bool → Int → Int → Int → Option (Int × Int × Int × Bool)
  | 0, _, _, _, _, _ => none
  | k + 1, x0, x24, x128000, x128001, x128002 => if x24 = true then (some (0, 0, 0, false)) else (impl_LearnForm.l0 k ([] : List (S40)) x0 (x0.length : Int) 0 x128000 x128001 x128002)
def impl_LearnForm.l0 : Nat → List (S40) → List (S40) → Int → Int → Int → Int → Int → Option (Int × Int × Int × Bool)
  | 0, _, _, _, _, _, _, _ => none
  | k + 1, x5, x26, x27, x28, x128000, x128001, x128002 => if x28 < x27 then (if 0 ≤ x28 then (if x28 < (x26.length : Int) then ((impl_sameForm.f ((rd_T40 x26 x28).f0.f0) ((rd_T40 x26 x28).f0.f1) ((rd_T40 x26 x28).f0.f2) ((rd_T40 x26 x28).f1) ((rd_T40 x26 x28).f2.f0) ((rd_T40 x26 x28).f2.f1) ((rd_T40 x26 x28).f2.f2.f0) ((rd_T40 x26 x28).f2.f2.f1) ((rd_T40 x26 x28).f2.f2.f2) x128000 x128001 x128002).bind fun t133 => (if t133 = true then ((impl_hasBody.f ((rd_T40 x26 x28).f2.f0)).bind fun t134 => (if t134 = true then (if x5.length < 1599289640401 then (impl_LearnForm.l0 k (x5 ++ [(⟨(⟨(rd_T40 x26 x28).f0.f0, (rd_T40 x26 x28).f0.f1, (rd_T40 x26 x28).f0.f2⟩ : S26), (rd_T40 x26 x28).f1, (⟨(rd_T40 x26 x28).f2.f0, (rd_T40 x26 x28).f2.f1, (⟨(rd_T40 x26 x28).f2.f2.f0, (rd_T40 x26 x28).f2.f2.f1, (rd_T40 x26 x28).f2.f2.f2⟩ : S26)⟩ : S38)⟩ : S40)]) x26 x27 (wrap64 (x28 + 1)) x128000 x128001 x128002) else (none)) else (impl_LearnForm.l0 k x5 x26 x27 (wrap64 (x28 + 1)) x128000 x128001 x128002))) else (impl_LearnForm.l0 k x5 x26 x27 (wrap64 (x28 + 1)) x128000 x128001 x128002))) else (none)) else (none)) else (if (x5.length : Int) = 0 then (some (0, 0, (x5.length : Int), true)) else (if 0 < (x5.length : Int) then ((impl_ValueOfResource.f k ((rd_T40 x5 0).f2.f0) ((rd_T40 x5 0).f2.f1) ((rd_T40 x5 0).f2.f2.f0) ((rd_T40 x5 0).f2.f2.f1) ((rd_T40 x5 0).f2.f2.f2)).bind fun t141 => (impl_LearnForm.l1 k x5 ((rd_T40 x5 0).f0.f2) t141 x5 (x5.length : Int) 0 t141 0 (x5.length : Int) true)) else (none)))
def impl_LearnForm.j4 : Nat → List (S40) → Int → Int → Int → Bool → Option (Int × Int × Int × Bool)
  | 0, _, _, _, _, _ => none
  | k + 1, x5, x139000, x139001, x139002, x139003 => impl_LearnForm.l3 k x5 (x5.length : Int) 0 x139000 x139001 x139002 x139003
def impl_LearnForm.l3 : Nat → List (S40) → Int → Int → Int → Int → Int → Bool → Option (Int × Int × Int × Bool)
  | 0, _, _, _, _, _, _, _ => none
  | k + 1, x103, x104, x105, x139000, x139001, x139002, x139003 => if x105 < x104 then (if 0 ≤ x105 then (if x105 < (x103.length : Int) then (if x139003 = true then ((impl_Model_says.f x139000 x139001 x139002 x139003 ((rd_T40 x103 x105).f0.f2)).bind fun t150 => ((impl_ValueOfResource.f k ((rd_T40 x103 x105).f2.f0) ((rd_T40 x103 x105).f2.f1) ((rd_T40 x103 x105).f2.f2.f0) ((rd_T40 x103 x105).f2.f2.f1) ((rd_T40 x103 x105).f2.f2.f2)).bind fun t151 => (impl_LearnForm.l3 k x103 x104 (wrap64 (x105 + 1)) x139000 x139001 x139002 (t150 == t151)))) else (impl_LearnForm.l3 k x103 x104 (wrap64 (x105 + 1)) x139000 x139001 x139002 false)) else (none)) else (none)) else (some (x139000, x139001, x139002, x139003))
def impl_LearnForm.l1 : Nat → List (S40) → Int → Int → List (S40) → Int → Int → Int → Int → Int → Bool → Option (Int × Int × Int × Bool)
  | 0, _, _, _, _, _, _, _, _, _, _ => none
  | k + 1, x5, x9, x10, x65, x66, x67, x139000, x139001, x139002, x139003 => if x67 < x66 then (if 0 ≤ x67 then (if x67 < (x65.length : Int) then (if ((rd_T40 x65 x67).f0.f2) = x9 then (impl_LearnForm.l1 k x5 x9 x10 x65 x66 (wrap64 (x67 + 1)) x139000 x139001 x139002 x139003) else (impl_LearnForm.l2 k x5 x9 x10 0 x139000 x139001 x139002 x139003 ((rd_T40 x65 x67).f0.f0) ((rd_T40 x65 x67).f0.f1) ((rd_T40 x65 x67).f0.f2) ((rd_T40 x65 x67).f1) ((rd_T40 x65 x67).f2.f0) ((rd_T40 x65 x67).f2.f1) ((rd_T40 x65 x67).f2.f2.f0) ((rd_T40 x65 x67).f2.f2.f1) ((rd_T40 x65 x67).f2.f2.f2))) else (none)) else (none)) else (impl_LearnForm.j4 k x5 x139000 x139001 x139002 x139003)
def impl_LearnForm.l2 : Nat → List (S40) → Int → Int → Int → Int → Int → Int → Bool → Int → Int → Int → Int → Int → List Int → Int → Int → Int → Option (Int × Int × Int × Bool)
  | 0, _, _, _, _, _, _, _, _, _, _, _, _, _, _, _, _, _ => none
  | k + 1, x5, x9, x10, x76, x139000, x139001, x139002, x139003, x144000, x144001, x144002, x144003, x144004, x144005, x144006, x144007, x144008 => if x76 < 1000 then ((impl_Mod.f (wrap64 (x10 - (wrap64 (x76 * x9)))) 1000).bind fun t144 => ((impl_Model_says.f t144 x76 0 false x144002).bind fun t146 => ((impl_ValueOfResource.f k x144004 x144005 x144006 x144007 x144008).bind fun t147 => (if t146 = t147 then (impl_LearnForm.j4 k x5 t144 x76 x139002 x139003) else (impl_LearnForm.l2 k x5 x9 x10 (wrap64 (x76 + 1)) x139000 x139001 x139002 x139003 x144000 x144001 x144002 x144003 x144004 x144005 x144006 x144007 x144008))))) else (impl_LearnForm.j4 k x5 x139000 x139001 x139002 x139003)
end
def impl_LearnForm.f (k : Nat) (l0 : List (S40)) (a1_0 : Int) (a1_1 : Int) (a1_2 : Int) : Option (Int × Int × Int × Bool) := (impl_AreCaptures.f k l0).bind fun t129 => (if t129 = true then ((impl_IsAddress.f a1_0 a1_1 a1_2).bind fun t130 => (impl_LearnForm.j0 k l0 (!t130) a1_0 a1_1 a1_2)) else (impl_LearnForm.j0 k l0 true a1_0 a1_1 a1_2))
def impl_LearnForm.T13 : Bool × List (List Nat × List Nat) := (true, [([], []), ([0], [0]), ([1], [1]), ([2], [2]), ([3], [3]), ([], []), ([5], [5]), ([6], [6]), ([7], [7]), ([8], [8]), ([4, 9, 0, 1, 2, 3, 4], [4]), ([9, 10, 0, 1, 2, 3, 4, 5, 6, 7, 8, 9, 10], [9])])
def impl_LearnForm.B13 : List Nat := [0, 1, 3, 7, 15, 0, 32, 96, 224, 480, 1023, 2047]
theorem impl_LearnForm.tab13 : rtab .any (opsOf Try.f51 13) = impl_LearnForm.T13 := by kernel_rfl
theorem impl_LearnForm.bits13 : waitsOk impl_LearnForm.T13.2 impl_LearnForm.B13 = true := by kernel_rfl
def impl_LearnForm.T23 : Bool × List (List Nat × List Nat) := (true, [([], []), ([], []), ([1], [1]), ([2], [2]), ([0, 3], [0, 3]), ([], []), ([5], [5]), ([6, 4], [6]), ([4, 7], [4, 7])])
def impl_LearnForm.B23 : List Nat := [0, 0, 2, 6, 15, 0, 32, 127, 255]
theorem impl_LearnForm.tab23 : rtab .any (opsOf Try.f51 23) = impl_LearnForm.T23 := by kernel_rfl
theorem impl_LearnForm.bits23 : waitsOk impl_LearnForm.T23.2 impl_LearnForm.B23 = true := by kernel_rfl
def impl_LearnForm.T30 : Bool × List (List Nat × List Nat) := (true, [([], []), ([0], [0]), ([1], [1]), ([2], [2]), ([2], [2]), ([4, 2], [2, 4]), ([5, 2], [2, 5]), ([3, 6, 2, 2], [2, 3, 6]), ([2], [2]), ([8, 2], [2, 8]), ([9, 7, 2], [2, 9]), ([7, 10, 2], [2, 7, 10]), ([2, 11], [2, 11]), ([0, 1, 2, 3, 4, 5, 6, 7, 8, 9, 10, 11, 12], []), ([13, 12, 10, 0, 1, 2, 3, 4, 5, 6, 7, 8, 9, 10, 11, 12], [12, 13])])
def impl_LearnForm.B30 : List Nat := [0, 1, 3, 7, 7, 23, 55, 127, 7, 263, 1023, 2047, 4095, 8191, 16383]
theorem impl_LearnForm.tab30 : rtab .any (opsOf Try.f51 30) = impl_LearnForm.T30 := by kernel_rfl
theorem impl_LearnForm.bits30 : waitsOk impl_LearnForm.T30.2 impl_LearnForm.B30 = true := by kernel_rfl
set_option maxHeartbeats 64000000 in
set_option maxRecDepth 100000 in
theorem impl_LearnForm.calls (k : Nat) (P0_ : Nat → Prop) (A0 : Option Addr) (c0 : Nat) (l0 : List (S40)) (a1_0 : Int) (a1_1 : Int) (a1_2 : Int) (r1 : Int) (r2 : Int) (r3 : Int) (r4 : Bool) (w : World) (hs0 : Kd.V k40 40 w w.heap.size (fun k_ => P0_ k_) (.slice A0 l0.length c0) l0) (h : impl_LearnForm.f k l0 a1_0 a1_1 a1_2 = some (r1, r2, r3, r4)) :
  Calls Try.prog 51 #[.slice A0 l0.length c0, .agg #[.int .i64 a1_0, .int .i64 a1_1, .int .i64 a1_2]] w fun e w' => e = .returned (.agg #[.int .i64 r1, .int .i64 r2, .int .i64 r3, .bool r4]) ∧ Below w.heap.size w w' := by
 have hu26 := Try.underlying26
 have hu85 := Try.underlying85
 have hu40 := Try.underlying40
 have hu38 := Try.underlying38
 have HO0 := ak (show Kd.V k40 40 w w.heap.size (fun k_ => (P0_ k_ ∨ w.heap.size ≤ k_)) (.slice A0 l0.length c0) l0 from Kd.V_mono hs0 (fun k_ hk => .inl hk))
 have HB := ak (Below.refl w.heap.size w)
 have H : ((impl_AreCaptures.f k l0).bind fun t129 => (if t129 = true then ((impl_IsAddress.f a1_0 a1_1 a1_2).bind fun t130 => (impl_LearnForm.j0 k l0 (!t130) a1_0 a1_1 a1_2)) else (impl_LearnForm.j0 k l0 true a1_0 a1_1 a1_2))) = some (r1, r2, r3, r4) := h
 clear h
 have HC3 := Aside0.mk H
 clear H
 go_enter Try.func51, Try.ntmps51
 go_upto_region 1 with (first | ((with_reducible refine gate_dst (N := 3) rfl ?_); refine bx_ (N := 3) #[.int .i64 a1_0, .int .i64 a1_1, .int .i64 a1_2] 26 ?_; intro gb127 hg w4 hbox hb; replace HO0 := ak (Kd.V_below (Kd.V_elderB (PV HO0) gb127 (Nat.le_of_eq hg.symm)) hb); have BK127 := ak hbox; have GW127 := gy hg HB; have GE127 := gy hg HB; replace HB := bs HB hb; clear hb hbox hg) | ((with_reducible refine gate_dst (N := 4) rfl ?_); refine bx_ (N := 4) #[.int .i64 0, .int .i64 0, .int .i64 0, .bool false] 85 ?_; intro gb128 hg w5 hbox hb; replace HO0 := ak (Kd.V_below (Kd.V_elderB (PV HO0) gb128 (Nat.le_of_eq hg.symm)) hb); have BK128 := ak hbox; have GW128 := gy hg HB; have GE128 := gy hg HB; replace HB := bs HB hb; have NB127_128 := gm hg BK127; have NB128_127 := gn hg BK127; replace BK127 := kf BK127 hb; clear hb hbox hg))
 (try simp only [Act.put, List.setIfInBounds_toArray, List.set_cons_zero, List.set_cons_succ])
 go_cut [24] (fun v24 wc => ∃ (kq : Nat) (x24_2 : Bool), v24 = .bool x24_2 ∧ Aside0 (impl_LearnForm.j0 kq l0 x24_2 a1_0 a1_1 a1_2 = some (r1, r2, r3, r4)) ∧ Aside0 (kq ≤ k) ∧ Aside0 (Kd.V k40 40 wc w.heap.size (fun k_ => (P0_ k_ ∨ w.heap.size ≤ k_) ∧ k_ ≠ gb127 ∧ k_ ≠ gb128) (.slice A0 l0.length c0) l0) ∧ Aside0 (wc.heap[gb127]? = some (.cells #[.int .i64 a1_0, .int .i64 a1_1, .int .i64 a1_2] 26 (0, 0))) ∧ Aside0 (wc.heap[gb128]? = some (.cells #[.int .i64 0, .int .i64 0, .int .i64 0, .bool false] 85 (0, 0))) ∧ Aside0 (Below w.heap.size w wc))
 case first =>
  have H := HC3.out
  clear HC3
  replace H := Option.bind_eq_some_iff.mp H
  obtain ⟨t129, A60, H⟩ := H
  replace H : (if t129 = true then ((impl_IsAddress.f a1_0 a1_1 a1_2).bind fun t130 => (impl_LearnForm.j0 k l0 (!t130) a1_0 a1_1 a1_2)) else (impl_LearnForm.j0 k l0 true a1_0 a1_1 a1_2)) = some (r1, r2, r3, r4) := H
  have A6 := Aside0.mk A60
  clear A60
  by_cases c7 : t129 = true
  ·subst c7
   have H1 : ((impl_IsAddress.f a1_0 a1_1 a1_2).bind fun t130 => (impl_LearnForm.j0 k l0 (!t130) a1_0 a1_1 a1_2)) = some (r1, r2, r3, r4) := by rw [if_pos rfl] at H; exact H
   clear H
   have H := H1
   clear H1
   replace H := Option.bind_eq_some_iff.mp H
   obtain ⟨t130, A80, H⟩ := H
   replace H : (impl_LearnForm.j0 k l0 (!t130) a1_0 a1_1 a1_2) = some (r1, r2, r3, r4) := H
   have A8 := Aside0.mk A80
   clear A80
   have H' := Aside0.mk H
   clear H
   go_wp2_with (first | ((with_reducible refine gate_callee (f := 14) rfl ?_); refine goesL_ (some 18) rfl rfl Try.func14 KR rfl #[.slice A0 l0.length c0] rfl AR ?_; (with_reducible refine (impl_AreCaptures.calls k _ _ l0 true _ ?side1 ?side2 A6.out).mono ?_); (case side1 => exact CR ((Kd.V_reads' HO0.out).2.2)); (case side2 => exact (Kd.V_reads' HO0.out).2.1); rintro e w9 ⟨rfl, hb⟩; refine ⟨_, rfl, ?_⟩; replace HO0 := Vb HO0 hb; replace BK127 := kf BK127 hb; replace BK128 := kf BK128 hb; replace HB := bs HB hb; (try clear hb); (try clear hb2); (try clear hk); (try clear hi); have hnb10 := NB127_128.out; have hnc10 := NB128_127.out; obtain ⟨hcz11_0, hcz11_1, hcz11_2, hfz11_0, hfz11_1, hfz11_2⟩ := bc3 BK127) | (go_at_call 27; (with_reducible refine (impl_IsAddress.calls a1_0 a1_1 a1_2 t130 _ A8.out).mono ?_); rintro e w12 ⟨rfl, hb⟩; replace HO0 := Vb HO0 hb; replace BK127 := kf BK127 hb; replace BK128 := kf BK128 hb; replace HB := bs HB hb; (try clear hb); (try clear hb2); (try clear hk); (try clear hi)))
   go_meet
   case rel => exact ⟨_, (!t130), (by first | rfl | (simp; done) | (simp [*]; done)), H', ⟨by first | omega | exact Nat.le_refl _⟩, ⟨VX HO0.out (fun _ hk => ⟨hk.1.1, ⟨hk.1.2, hk.2⟩⟩)⟩, ⟨PK BK127⟩, ⟨PK BK128⟩, ⟨PB⟩⟩
  ·replace c7 := Bool.eq_false_iff.mpr c7
   subst c7
   have H1 : (impl_LearnForm.j0 k l0 true a1_0 a1_1 a1_2) = some (r1, r2, r3, r4) := by rw [if_neg (show ¬ (false = true) by decide)] at H; exact H
   clear H
   have H := H1
   clear H1
   have H' := Aside0.mk H
   clear H
   go_wp2_with (first | ((with_reducible refine gate_callee (f := 14) rfl ?_); refine goesL_ (some 18) rfl rfl Try.func14 KR rfl #[.slice A0 l0.length c0] rfl AR ?_; (with_reducible refine (impl_AreCaptures.calls k _ _ l0 false _ ?side1 ?side2 A6.out).mono ?_); (case side1 => exact CR ((Kd.V_reads' HO0.out).2.2)); (case side2 => exact (Kd.V_reads' HO0.out).2.1); rintro e w13 ⟨rfl, hb⟩; refine ⟨_, rfl, ?_⟩; replace HO0 := Vb HO0 hb; replace BK127 := kf BK127 hb; replace BK128 := kf BK128 hb; replace HB := bs HB hb; (try clear hb); (try clear hb2); (try clear hk); (try clear hi)))
   go_meet
   case rel => exact ⟨_, (true), (by first | rfl | (simp; done) | (simp [*]; done)), H', ⟨by first | omega | exact Nat.le_refl _⟩, ⟨VX HO0.out (fun _ hk => ⟨hk.1.1, ⟨hk.1.2, hk.2⟩⟩)⟩, ⟨PK BK127⟩, ⟨PK BK128⟩, ⟨PB⟩⟩
 case rest =>
  clear HC3
  (try clear c1); (try clear p2); (try clear c5); (try clear c7); (try clear c10); (try clear hcz11_0); (try clear hcz11_1); (try clear hcz11_2); (try clear hfz11_0); (try clear hfz11_1); (try clear hfz11_2)
  obtain ⟨kq, x24_2, rfl, HA, HJ2, HO_0, BK127, BK128, HB⟩ := hcut
  cases kq with
  | zero => exact absurd HA.out (by simp [impl_LearnForm.j0])
  | succ kj2 =>
   have H := HA.out
   clear HA
   simp only [impl_LearnForm.j0] at H
   by_cases c14 : x24_2 = true
   ·subst c14
    have H1 : (some (0, 0, 0, false)) = some (r1, r2, r3, r4) := by rw [if_pos rfl] at H; exact H
    clear H
    have H := H1
    clear H1
    simp only [Option.some.injEq, Prod.mk.injEq] at H
    obtain ⟨rfl, rfl, rfl, rfl⟩ := H
    have hnb15 := NB128_127.out
    have hnc15 := NB127_128.out
    obtain ⟨hcz16_0, hcz16_1, hcz16_2, hcz16_3, hfz16_0, hfz16_1, hfz16_2, hfz16_3⟩ := bc4 BK128
    go_wp2
    refine bodyPost_ret (results_cell_row rfl _ _ gb128 85 #[.int .i64 0, .int .i64 0, .int .i64 0, .bool false] (0, 0) _ rfl (PX BK128) Try.underlying85 rfl KR) rfl ?_
    exact ⟨RT, PB⟩
   ·replace c14 := Bool.eq_false_iff.mpr c14
    subst c14
    have H1 : (impl_LearnForm.l0 kj2 ([] : List (S40)) l0 (l0.length : Int) 0 a1_0 a1_1 a1_2) = some (r1, r2, r3, r4) := by rw [if_neg (show ¬ (false = true) by decide)] at H; exact H
    clear H
    have H := H1
    clear H1
    have H' := Aside0.mk H
    clear H
    go_wp2
    go_loopg [5, 28] kj2 (fun kq v5 v28 w' => ∃ (x5_2 : List (S40)) (x28_2 : Int), v28 = .int .i64 x28_2 ∧ Aside0 (impl_LearnForm.l0 kq x5_2 l0 (l0.length : Int) x28_2 a1_0 a1_1 a1_2 = some (r1, r2, r3, r4)) ∧ Aside0 (kq ≤ kj2) ∧ Aside0 (Kd.N k40 40 w' w.heap.size (fun k_ => (P0_ k_ ∨ w.heap.size ≤ k_) ∧ k_ ≠ gb127 ∧ k_ ≠ gb128) v5 x5_2) ∧ Aside0 (Kd.V k40 40 w' w.heap.size (fun k_ => (P0_ k_ ∨ w.heap.size ≤ k_) ∧ some k_ ≠ (v5 : Value).ownBlock ∧ k_ ≠ gb127 ∧ k_ ≠ gb128) (.slice A0 l0.length c0) l0) ∧ Aside0 (w'.heap[gb127]? = some (.cells #[.int .i64 a1_0, .int .i64 a1_1, .int .i64 a1_2] 26 (0, 0))) ∧ Aside0 (w'.heap[gb128]? = some (.cells #[.int .i64 0, .int .i64 0, .int .i64 0, .bool false] 85 (0, 0))) ∧ Aside0 (Below w.heap.size w w'))
    case atStart => exact ⟨(([] : List (S40))), (0), (by first | rfl | (simp; done) | (simp [*]; done)), H', ⟨Nat.le_refl _⟩, ⟨by first | exact Kd.S_nil _ _ _ _ _ | exact Kd.N_nil _ _ _ _ _ | exact Kd.V_nil _ _ _ _ _ | exact Kd.Q_nil _ _ _ _ _ | exact Kd.R_nil _ _ _ _ _⟩, ⟨VX HO_0.out (fun _ hk => ⟨hk.1, ⟨(by simp [Value.ownBlock]), ⟨hk.2.1, hk.2.2⟩⟩⟩)⟩, ⟨PK BK127⟩, ⟨PK BK128⟩, ⟨PB⟩⟩
    case round =>
     clear H'
     (try clear c1); (try clear p2); (try clear c5); (try clear c7); (try clear c10); (try clear c14); (try clear c15); (try clear hcz11_0); (try clear hcz11_1); (try clear hcz11_2); (try clear hcz16_0); (try clear hcz16_1); (try clear hcz16_2); (try clear hcz16_3); (try clear hfz11_0); (try clear hfz11_1); (try clear hfz11_2); (try clear hfz16_0); (try clear hfz16_1); (try clear hfz16_2); (try clear hfz16_3); (try clear p2)
     obtain ⟨x5_2, x28_2, rfl, HA, HK2, HO_5, HO_26, BK127, BK128, HB⟩ := hrel
     cases gk with
     | zero => exact absurd HA.out (by simp [impl_LearnForm.l0])
     | succ k2 =>
      have H := HA.out
      clear HA
      simp only [impl_LearnForm.l0] at H
      by_cases c17 : x28_2 < (l0.length : Int)
      ·rw [if_pos c17] at H
       have c17b0 : decide (x28_2 < (l0.length : Int)) = true := decide_eq_true c17
       clear c17
       by_cases c18 : 0 ≤ x28_2
       ·rw [if_pos c18] at H
        have c18b0 : decide (0 ≤ x28_2) = true := decide_eq_true c18
        clear c18
        by_cases c19 : x28_2 < (l0.length : Int)
        ·rw [if_pos c19] at H
         have c19b0 : decide (x28_2 < (l0.length : Int)) = true := decide_eq_true c19
         clear c19
         replace H := Option.bind_eq_some_iff.mp H
         obtain ⟨t133, A200, H⟩ := H
         replace H : (if t133 = true then ((impl_hasBody.f ((rd_T40 l0 x28_2).f2.f0)).bind fun t134 => (if t134 = true then (if x5_2.length < 1599289640401 then (impl_LearnForm.l0 k2 (x5_2 ++ [(⟨(⟨(rd_T40 l0 x28_2).f0.f0, (rd_T40 l0 x28_2).f0.f1, (rd_T40 l0 x28_2).f0.f2⟩ : S26), (rd_T40 l0 x28_2).f1, (⟨(rd_T40 l0 x28_2).f2.f0, (rd_T40 l0 x28_2).f2.f1, (⟨(rd_T40 l0 x28_2).f2.f2.f0, (rd_T40 l0 x28_2).f2.f2.f1, (rd_T40 l0 x28_2).f2.f2.f2⟩ : S26)⟩ : S38)⟩ : S40)]) l0 (l0.length : Int) (wrap64 (x28_2 + 1)) a1_0 a1_1 a1_2) else (none)) else (impl_LearnForm.l0 k2 x5_2 l0 (l0.length : Int) (wrap64 (x28_2 + 1)) a1_0 a1_1 a1_2))) else (impl_LearnForm.l0 k2 x5_2 l0 (l0.length : Int) (wrap64 (x28_2 + 1)) a1_0 a1_1 a1_2)) = some (r1, r2, r3, r4) := H
         have A20 := Aside0.mk A200
         clear A200
         by_cases c21 : t133 = true
         ·subst c21
          have H1 : ((impl_hasBody.f ((rd_T40 l0 x28_2).f2.f0)).bind fun t134 => (if t134 = true then (if x5_2.length < 1599289640401 then (impl_LearnForm.l0 k2 (x5_2 ++ [(⟨(⟨(rd_T40 l0 x28_2).f0.f0, (rd_T40 l0 x28_2).f0.f1, (rd_T40 l0 x28_2).f0.f2⟩ : S26), (rd_T40 l0 x28_2).f1, (⟨(rd_T40 l0 x28_2).f2.f0, (rd_T40 l0 x28_2).f2.f1, (⟨(rd_T40 l0 x28_2).f2.f2.f0, (rd_T40 l0 x28_2).f2.f2.f1, (rd_T40 l0 x28_2).f2.f2.f2⟩ : S26)⟩ : S38)⟩ : S40)]) l0 (l0.length : Int) (wrap64 (x28_2 + 1)) a1_0 a1_1 a1_2) else (none)) else (impl_LearnForm.l0 k2 x5_2 l0 (l0.length : Int) (wrap64 (x28_2 + 1)) a1_0 a1_1 a1_2))) = some (r1, r2, r3, r4) := by rw [if_pos rfl] at H; exact H
          clear H
          have H := H1
          clear H1
          replace H := Option.bind_eq_some_iff.mp H
          obtain ⟨t134, A220, H⟩ := H
          replace H : (if t134 = true then (if x5_2.length < 1599289640401 then (impl_LearnForm.l0 k2 (x5_2 ++ [(⟨(⟨(rd_T40 l0 x28_2).f0.f0, (rd_T40 l0 x28_2).f0.f1, (rd_T40 l0 x28_2).f0.f2⟩ : S26), (rd_T40 l0 x28_2).f1, (⟨(rd_T40 l0 x28_2).f2.f0, (rd_T40 l0 x28_2).f2.f1, (⟨(rd_T40 l0 x28_2).f2.f2.f0, (rd_T40 l0 x28_2).f2.f2.f1, (rd_T40 l0 x28_2).f2.f2.f2⟩ : S26)⟩ : S38)⟩ : S40)]) l0 (l0.length : Int) (wrap64 (x28_2 + 1)) a1_0 a1_1 a1_2) else (none)) else (impl_LearnForm.l0 k2 x5_2 l0 (l0.length : Int) (wrap64 (x28_2 + 1)) a1_0 a1_1 a1_2)) = some (r1, r2, r3, r4) := H
          have A22 := Aside0.mk A220
          clear A220
          by_cases c23 : t134 = true
          ·subst c23
           have H1 : (if x5_2.length < 1599289640401 then (impl_LearnForm.l0 k2 (x5_2 ++ [(⟨(⟨(rd_T40 l0 x28_2).f0.f0, (rd_T40 l0 x28_2).f0.f1, (rd_T40 l0 x28_2).f0.f2⟩ : S26), (rd_T40 l0 x28_2).f1, (⟨(rd_T40 l0 x28_2).f2.f0, (rd_T40 l0 x28_2).f2.f1, (⟨(rd_T40 l0 x28_2).f2.f2.f0, (rd_T40 l0 x28_2).f2.f2.f1, (rd_T40 l0 x28_2).f2.f2.f2⟩ : S26)⟩ : S38)⟩ : S40)]) l0 (l0.length : Int) (wrap64 (x28_2 + 1)) a1_0 a1_1 a1_2) else (none)) = some (r1, r2, r3, r4) := by rw [if_pos rfl] at H; exact H
           clear H
           have H := H1
           clear H1
           by_cases c24 : x5_2.length < 1599289640401
           ·rw [if_pos c24] at H
            have LMc24 := Aside0.mk c24
            clear c24
            obtain ⟨y135, hy135⟩ : ∃ y_ : List (S40), y_ = (x5_2 ++ [(⟨(⟨(rd_T40 l0 x28_2).f0.f0, (rd_T40 l0 x28_2).f0.f1, (rd_T40 l0 x28_2).f0.f2⟩ : S26), (rd_T40 l0 x28_2).f1, (⟨(rd_T40 l0 x28_2).f2.f0, (rd_T40 l0 x28_2).f2.f1, (⟨(rd_T40 l0 x28_2).f2.f2.f0, (rd_T40 l0 x28_2).f2.f2.f1, (rd_T40 l0 x28_2).f2.f2.f2⟩ : S26)⟩ : S38)⟩ : S40)]) := ⟨_, rfl⟩
            replace H : (impl_LearnForm.l0 k2 y135 l0 (l0.length : Int) (wrap64 (x28_2 + 1)) a1_0 a1_1 a1_2) = some (r1, r2, r3, r4) := by first | (rw [hy135]; with_reducible exact H) | (have H2_ := (Option.bind_some _ _).symm.trans H; rw [hy135]; with_reducible exact H2_) | (have H2_ := (Option.bind_some _ _).symm.trans H; with_reducible exact H2_) | with_reducible exact H | (rw [hy135]; exact H) | exact H
            have Ny135 := Aside0.mk hy135
            clear hy135
            have H' := Aside0.mk H
            clear H
            have p131 : 0 ≤ (x28_2 : Int) := of_decide_eq_true (by first | (with_reducible assumption) | assumption)
            have q131 : x28_2 < (l0.length : Int) := of_decide_eq_true (by first | (with_reducible assumption) | assumption)
            obtain ⟨ad131, A131_5, c131_5, e131, hx131_0, hx131_1, hx131_2, hx131_3, hx131_4, hx131_5, hx131_6, hx131_7, hx131_8, hl131_5, hi131_5⟩ := at_T40 (Kd.V_reads' HO_26.out).2.2 x28_2 p131 q131
            cases e131
            obtain ⟨ce131, hce131, hMe131, hcc131⟩ := Kd.V_get HO_26.out z40 x28_2 p131 (by first | exact q131 | exact of_decide_eq_true (by first | (with_reducible assumption) | assumption) | (have e_ := (Kd.V_reads' HO_26.out).1; omega))
            obtain ⟨ua131_5, uc131_5, rfl, ul131_5, ge131_5⟩ := k40_openF hMe131
            have hv131_5 := hcc131 5 _ rfl
            rw [add_field _ _ 5 (by omega)] at hv131_5
            replace hv131_5 := Option.some.inj (hv131_5.symm.trans hx131_5)
            injection hv131_5 with hva_ hvn_ hvc_
            rw [hva_] at ge131_5
            rw [hvc_] at ul131_5
            have HL131_5 := ak (show Kd.V (Kd.int .i64) 3 _ w.heap.size _ _ ((rd_T40 l0 x28_2).f2.f1) from Kd.V_mk ul131_5 ge131_5)
            clear hva_ hvn_ hvc_ ge131_5 ul131_5
            clear hcc131 hce131
            have HR131_5 := Aside0.mk hi131_5
            have HC131_5 := Aside0.mk hl131_5
            clear hi131_5 hl131_5
            replace p131 := eq_true p131
            replace q131 := eq_true q131
            go_wp2_with (first | ((with_reducible refine gate_dst (N := 7) rfl ?_); refine bx_ (N := 7) #[.int .i64 0, .int .i64 0, .int .i64 0, .int .i64 0, .int .i64 0, .slice none 0 0, .int .i64 0, .int .i64 0, .int .i64 0] 40 ?_; intro gb132 hg w25 hbox hb; replace HO_5 := ak (Kd.N_below (Kd.N_elderB (PN HO_5) gb132 (Nat.le_of_eq hg.symm)) hb); replace HO_26 := ak (Kd.V_below (Kd.V_elderB (PV HO_26) gb132 (Nat.le_of_eq hg.symm)) hb); replace HL131_5 := ak (Kd.V_below (Kd.V_elderB (PV HL131_5) gb132 (Nat.le_of_eq hg.symm)) hb); replace HR131_5 := Cb HR131_5 hb; have BK132 := ak hbox; have GW132 := gy hg HB; have GE132 := gy hg HB; replace HB := bs HB hb; have NB127_132 := gm hg BK127; have NB132_127 := gn hg BK127; replace BK127 := kf BK127 hb; have NB128_132 := gm hg BK128; have NB132_128 := gn hg BK128; replace BK128 := kf BK128 hb; clear hb hbox hg; have hnb26 := NB132_127.out; have hnc26 := NB127_132.out; have hnb27 := NB132_128.out; have hnc27 := NB128_132.out; obtain ⟨hcz28_0, hcz28_1, hcz28_2, hcz28_3, hcz28_4, hcz28_5, hcz28_6, hcz28_7, hcz28_8, hfz28_0, hfz28_1, hfz28_2, hfz28_3, hfz28_4, hfz28_5, hfz28_6, hfz28_7, hfz28_8⟩ := bc9 BK132; have hnb29 := NB127_128.out; have hnc29 := NB128_127.out; obtain ⟨hcz30_0, hcz30_1, hcz30_2, hfz30_0, hfz30_1, hfz30_2⟩ := bc3 BK127) | ((with_reducible refine gate_callee (f := 115) rfl ?_); refine goesL_ (some 34) rfl rfl Try.func115 KR rfl #[.agg #[.int .i64 ((rd_T40 l0 x28_2).f0.f0), .int .i64 ((rd_T40 l0 x28_2).f0.f1), .int .i64 ((rd_T40 l0 x28_2).f0.f2), .int .i64 ((rd_T40 l0 x28_2).f1), .int .i64 ((rd_T40 l0 x28_2).f2.f0), .slice A131_5 ((rd_T40 l0 x28_2).f2.f1).length c131_5, .int .i64 ((rd_T40 l0 x28_2).f2.f2.f0), .int .i64 ((rd_T40 l0 x28_2).f2.f2.f1), .int .i64 ((rd_T40 l0 x28_2).f2.f2.f2)], .agg #[.int .i64 a1_0, .int .i64 a1_1, .int .i64 a1_2]] rfl AR ?_; (with_reducible refine (impl_sameForm.calls ((rd_T40 l0 x28_2).f0.f0) ((rd_T40 l0 x28_2).f0.f1) ((rd_T40 l0 x28_2).f0.f2) ((rd_T40 l0 x28_2).f1) ((rd_T40 l0 x28_2).f2.f0) _ _ ((rd_T40 l0 x28_2).f2.f1) ((rd_T40 l0 x28_2).f2.f2.f0) ((rd_T40 l0 x28_2).f2.f2.f1) ((rd_T40 l0 x28_2).f2.f2.f2) a1_0 a1_1 a1_2 true _ ?side1 ?side2 A20.out).mono ?_); (case side1 => repeat (first | exact ((Kd.V_reads' (VX (Kd.V_mono HL131_5.out (fun k_ hk => (⟨hk, hk.2⟩ : _ ∧ k_ ≠ gb132))) (fun _ h_ => h_.1))).2.2) | (with_reducible refine Kd.C_alloc ?_ _) | (with_reducible refine Kd.C_drewN ?_ _) | (with_reducible refine Kd.C_drew ?_))); (case side2 => exact HC131_5.out); rintro e w31 ⟨rfl, hb⟩; refine ⟨_, rfl, ?_⟩; replace HO_5 := ak (Kd.N_below (NX (Kd.N_mono HO_5.out (fun k_ hk => (⟨hk, hk.2⟩ : _ ∧ k_ ≠ gb132))) (fun _ h_ => h_.1)) hb); replace HO_26 := ak (Kd.V_below (VX (Kd.V_mono HO_26.out (fun k_ hk => (⟨hk, hk.2⟩ : _ ∧ k_ ≠ gb132))) (fun _ h_ => h_.1)) hb); replace BK127 := kf BK127 hb; replace BK128 := kf BK128 hb; replace HR131_5 := ak (Kd.C_below ((Kd.V_reads' (VX (Kd.V_mono HL131_5.out (fun k_ hk => (⟨hk, hk.2⟩ : _ ∧ k_ ≠ gb132))) (fun _ h_ => h_.1))).2.2) hb); replace HL131_5 := ak (Kd.V_below (VX (Kd.V_mono HL131_5.out (fun k_ hk => (⟨hk, hk.2⟩ : _ ∧ k_ ≠ gb132))) (fun _ h_ => h_.1)) hb); replace BK132 := kp (cs' := #[.int .i64 ((rd_T40 l0 x28_2).f0.f0), .int .i64 ((rd_T40 l0 x28_2).f0.f1), .int .i64 ((rd_T40 l0 x28_2).f0.f2), .int .i64 ((rd_T40 l0 x28_2).f1), .int .i64 ((rd_T40 l0 x28_2).f2.f0), .slice A131_5 ((rd_T40 l0 x28_2).f2.f1).length c131_5, .int .i64 ((rd_T40 l0 x28_2).f2.f2.f0), .int .i64 ((rd_T40 l0 x28_2).f2.f2.f1), .int .i64 ((rd_T40 l0 x28_2).f2.f2.f2)]) BK132 hb; replace HB := bs HB hb; (try clear hb); (try clear hb2); (try clear hk); (try clear hi); obtain ⟨hcz32_0, hcz32_1, hcz32_2, hcz32_3, hcz32_4, hcz32_5, hcz32_6, hcz32_7, hcz32_8, hfz32_0, hfz32_1, hfz32_2, hfz32_3, hfz32_4, hfz32_5, hfz32_6, hfz32_7, hfz32_8⟩ := bc9 BK132) | (go_at_call 95; (with_reducible refine (impl_hasBody.calls ((rd_T40 l0 x28_2).f2.f0) true _ A22.out).mono ?_); rintro e w' ⟨rfl, ⟨nd, rfl⟩⟩) | ((with_reducible refine gate_builtin (b := .append) (xs := #[.tmp 41, .tmp 43]) rfl ?_); at_builtin; refine Kd.N_append k40 (w0 := w) w.heap.size rfl (.tmp 41) (.tmp 43) 24 40 (.agg #[(.int .i64 0), (.int .i64 0), (.int .i64 0), (.int .i64 0), (.int .i64 0), (.slice none 0 0), (.int .i64 0), (.int .i64 0), (.int .i64 0)]) 88 rfl Try.underlying24 info40 rfl (by decide) (by omega) u5 x5_2 (⟨(⟨(rd_T40 l0 x28_2).f0.f0, (rd_T40 l0 x28_2).f0.f1, (rd_T40 l0 x28_2).f0.f2⟩ : S26), (rd_T40 l0 x28_2).f1, (⟨(rd_T40 l0 x28_2).f2.f0, (rd_T40 l0 x28_2).f2.f1, (⟨(rd_T40 l0 x28_2).f2.f2.f0, (rd_T40 l0 x28_2).f2.f2.f1, (rd_T40 l0 x28_2).f2.f2.f2⟩ : S26)⟩ : S38)⟩ : S40) [.int .i64 ((rd_T40 l0 x28_2).f0.f0), .int .i64 ((rd_T40 l0 x28_2).f0.f1), .int .i64 ((rd_T40 l0 x28_2).f0.f2), .int .i64 ((rd_T40 l0 x28_2).f1), .int .i64 ((rd_T40 l0 x28_2).f2.f0), .slice A131_5 ((rd_T40 l0 x28_2).f2.f1).length c131_5, .int .i64 ((rd_T40 l0 x28_2).f2.f2.f0), .int .i64 ((rd_T40 l0 x28_2).f2.f2.f1), .int .i64 ((rd_T40 l0 x28_2).f2.f2.f2)] (fun k_ => (P0_ k_ ∨ w.heap.size ≤ k_) ∧ k_ ≠ gb127 ∧ k_ ≠ gb128 ∧ k_ ≠ gb132) (fun k_ => ((fun k_ => (P0_ k_ ∨ w.heap.size ≤ k_) ∧ k_ ≠ gb127 ∧ k_ ≠ gb128 ∧ k_ ≠ gb132)) k_ ∧ some k_ ≠ (u5 : Value).ownBlock) rfl rfl ?aP (fun _ hk => hk) ?aF ?aO ?aB ?aS ?aL ?_; (case aP => first | exact (k40_mkF _ _ (⟨(⟨(rd_T40 l0 x28_2).f0.f0, (rd_T40 l0 x28_2).f0.f1, (rd_T40 l0 x28_2).f0.f2⟩ : S26), (rd_T40 l0 x28_2).f1, (⟨(rd_T40 l0 x28_2).f2.f0, (rd_T40 l0 x28_2).f2.f1, (⟨(rd_T40 l0 x28_2).f2.f2.f0, (rd_T40 l0 x28_2).f2.f2.f1, (rd_T40 l0 x28_2).f2.f2.f2⟩ : S26)⟩ : S38)⟩ : S40) (Kd.V_reads' (Kd.V_mono (ok' := (fun k_ => ((fun k_ => (P0_ k_ ∨ w.heap.size ≤ k_) ∧ k_ ≠ gb127 ∧ k_ ≠ gb128 ∧ k_ ≠ gb132)) k_ ∧ some k_ ≠ (u5 : Value).ownBlock)) (HL131_5.out) (fun k_ hk => ⟨⟨hk.1.1, ⟨hk.1.2.2.1, ⟨hk.1.2.2.2, hk.2⟩⟩⟩, hk.1.2.1⟩))).2.1 (Kd.V_F (Kd.V_mono (ok' := (fun k_ => ((fun k_ => (P0_ k_ ∨ w.heap.size ≤ k_) ∧ k_ ≠ gb127 ∧ k_ ≠ gb128 ∧ k_ ≠ gb132)) k_ ∧ some k_ ≠ (u5 : Value).ownBlock)) (HL131_5.out) (fun k_ hk => ⟨⟨hk.1.1, ⟨hk.1.2.2.1, ⟨hk.1.2.2.2, hk.2⟩⟩⟩, hk.1.2.1⟩)))) | (have z1_ := (Kd.V_mono (ok' := (fun k_ => ((fun k_ => (P0_ k_ ∨ w.heap.size ≤ k_) ∧ k_ ≠ gb127 ∧ k_ ≠ gb128 ∧ k_ ≠ gb132)) k_ ∧ some k_ ≠ (u5 : Value).ownBlock)) (Kd.V_drewN HL131_5.out nd) (fun k_ hk => ⟨⟨hk.1.1, ⟨hk.1.2.2.1, ⟨hk.1.2.2.2, hk.2⟩⟩⟩, hk.1.2.1⟩)); exact k40_mkF _ _ (⟨(⟨(rd_T40 l0 x28_2).f0.f0, (rd_T40 l0 x28_2).f0.f1, (rd_T40 l0 x28_2).f0.f2⟩ : S26), (rd_T40 l0 x28_2).f1, (⟨(rd_T40 l0 x28_2).f2.f0, (rd_T40 l0 x28_2).f2.f1, (⟨(rd_T40 l0 x28_2).f2.f2.f0, (rd_T40 l0 x28_2).f2.f2.f1, (rd_T40 l0 x28_2).f2.f2.f2⟩ : S26)⟩ : S38)⟩ : S40) (Kd.V_reads' z1_).2.1 (Kd.V_F z1_))); (case aB => exact PB); (case aF => exact (fun k_ hk => ⟨(.inr (Nat.le_trans (below_size PB) hk)), Kd.freshB (g := gb127) (o := .cells #[.int .i64 a1_0, .int .i64 a1_1, .int .i64 a1_2] 26 (0, 0)) (PK BK127) k_ hk, Kd.freshB (g := gb128) (o := .cells #[.int .i64 0, .int .i64 0, .int .i64 0, .bool false] 85 (0, 0)) (PK BK128) k_ hk, Kd.freshB (g := gb132) (o := .cells #[.int .i64 ((rd_T40 l0 x28_2).f0.f0), .int .i64 ((rd_T40 l0 x28_2).f0.f1), .int .i64 ((rd_T40 l0 x28_2).f0.f2), .int .i64 ((rd_T40 l0 x28_2).f1), .int .i64 ((rd_T40 l0 x28_2).f2.f0), .slice A131_5 ((rd_T40 l0 x28_2).f2.f1).length c131_5, .int .i64 ((rd_T40 l0 x28_2).f2.f2.f0), .int .i64 ((rd_T40 l0 x28_2).f2.f2.f1), .int .i64 ((rd_T40 l0 x28_2).f2.f2.f2)] 40 (0, 0)) (PK BK132) k_ hk⟩)); (case aO => exact (NX HO_5.out (fun _ hk => ⟨hk.1.1, ⟨hk.1.2.1, ⟨hk.1.2.2, hk.2⟩⟩⟩))); (case aS => exact (below_size PB)); (case aL => have := LMc24.out; omega); intro v136 w33 ho hb hg hat; rw [← Ny135.out] at ho; replace HO_26 := ak (Kd.V_afterv (ok := (fun k_ => (P0_ k_ ∨ w.heap.size ≤ k_) ∧ k_ ≠ gb127 ∧ k_ ≠ gb128 ∧ k_ ≠ gb132)) (VX HO_26.out (fun _ hk => ⟨⟨hk.1.1, ⟨hk.1.2.2.1, ⟨hk.1.2.2.2, hk.2⟩⟩⟩, hk.1.2.1⟩)) hg hat); replace BK127 := ak (blk_grown (g := gb127) (o := .cells #[.int .i64 a1_0, .int .i64 a1_1, .int .i64 a1_2] 26 (0, 0)) (PK BK127) hg (Kd.N_ne HO_5.out BK127.out (by decide))); replace BK128 := ak (blk_grown (g := gb128) (o := .cells #[.int .i64 0, .int .i64 0, .int .i64 0, .bool false] 85 (0, 0)) (PK BK128) hg (Kd.N_ne HO_5.out BK128.out (by decide))); replace HL131_5 := ak (Kd.V_afterv (ok := (fun k_ => (P0_ k_ ∨ w.heap.size ≤ k_) ∧ k_ ≠ gb127 ∧ k_ ≠ gb128 ∧ k_ ≠ gb132)) (VX HL131_5.out (fun _ hk => ⟨⟨hk.1.1, ⟨hk.1.2.2.1, ⟨hk.1.2.2.2, hk.2⟩⟩⟩, hk.1.2.1⟩)) hg hat); replace BK132 := ak (blk_grown (g := gb132) (o := .cells #[.int .i64 ((rd_T40 l0 x28_2).f0.f0), .int .i64 ((rd_T40 l0 x28_2).f0.f1), .int .i64 ((rd_T40 l0 x28_2).f0.f2), .int .i64 ((rd_T40 l0 x28_2).f1), .int .i64 ((rd_T40 l0 x28_2).f2.f0), .slice A131_5 ((rd_T40 l0 x28_2).f2.f1).length c131_5, .int .i64 ((rd_T40 l0 x28_2).f2.f2.f0), .int .i64 ((rd_T40 l0 x28_2).f2.f2.f1), .int .i64 ((rd_T40 l0 x28_2).f2.f2.f2)] 40 (0, 0)) (PK BK132) hg (Kd.N_away HO_5.out FK)); replace HB := ak hb; have HO137 := ak (ho); clear HO_5; clear ho hb hg hat))
            go_roundg k2
            case measure => have := HJ2.out; have := HK2.out; omega
            case rel => exact ⟨(y135), (wrap64 (x28_2 + 1)), (by first | rfl | (simp; done) | (simp [*]; done)), H', ⟨by have := HJ2.out; have := HK2.out; omega⟩, ⟨NX HO137.out (fun _ hk => ⟨hk.1, ⟨hk.2.1, hk.2.2.1⟩⟩)⟩, ⟨VX HO_26.out (fun _ hk => ⟨hk.1.1, ⟨hk.2, ⟨hk.1.2.1, hk.1.2.2.1⟩⟩⟩)⟩, ⟨PK BK127⟩, ⟨PK BK128⟩, ⟨PB⟩⟩
           ·rw [if_neg c24] at H
            exact absurd H (by simp)
          ·replace c23 := Bool.eq_false_iff.mpr c23
           subst c23
           have H1 : (impl_LearnForm.l0 k2 x5_2 l0 (l0.length : Int) (wrap64 (x28_2 + 1)) a1_0 a1_1 a1_2) = some (r1, r2, r3, r4) := by rw [if_neg (show ¬ (false = true) by decide)] at H; exact H
           clear H
           have H := H1
           clear H1
           have H' := Aside0.mk H
           clear H
           have p131 : 0 ≤ (x28_2 : Int) := of_decide_eq_true (by first | (with_reducible assumption) | assumption)
           have q131 : x28_2 < (l0.length : Int) := of_decide_eq_true (by first | (with_reducible assumption) | assumption)
           obtain ⟨ad131, A131_5, c131_5, e131, hx131_0, hx131_1, hx131_2, hx131_3, hx131_4, hx131_5, hx131_6, hx131_7, hx131_8, hl131_5, hi131_5⟩ := at_T40 (Kd.V_reads' HO_26.out).2.2 x28_2 p131 q131
           cases e131
           obtain ⟨ce131, hce131, hMe131, hcc131⟩ := Kd.V_get HO_26.out z40 x28_2 p131 (by first | exact q131 | exact of_decide_eq_true (by first | (with_reducible assumption) | assumption) | (have e_ := (Kd.V_reads' HO_26.out).1; omega))
           obtain ⟨ua131_5, uc131_5, rfl, ul131_5, ge131_5⟩ := k40_openF hMe131
           have hv131_5 := hcc131 5 _ rfl
           rw [add_field _ _ 5 (by omega)] at hv131_5
           replace hv131_5 := Option.some.inj (hv131_5.symm.trans hx131_5)
           injection hv131_5 with hva_ hvn_ hvc_
           rw [hva_] at ge131_5
           rw [hvc_] at ul131_5
           have HL131_5 := ak (show Kd.V (Kd.int .i64) 3 _ w.heap.size _ _ ((rd_T40 l0 x28_2).f2.f1) from Kd.V_mk ul131_5 ge131_5)
           clear hva_ hvn_ hvc_ ge131_5 ul131_5
           clear hcc131 hce131
           have HR131_5 := Aside0.mk hi131_5
           have HC131_5 := Aside0.mk hl131_5
           clear hi131_5 hl131_5
           replace p131 := eq_true p131
           replace q131 := eq_true q131
           go_wp2_with (first | ((with_reducible refine gate_dst (N := 7) rfl ?_); refine bx_ (N := 7) #[.int .i64 0, .int .i64 0, .int .i64 0, .int .i64 0, .int .i64 0, .slice none 0 0, .int .i64 0, .int .i64 0, .int .i64 0] 40 ?_; intro gb132 hg w34 hbox hb; replace HO_5 := ak (Kd.N_below (Kd.N_elderB (PN HO_5) gb132 (Nat.le_of_eq hg.symm)) hb); replace HO_26 := ak (Kd.V_below (Kd.V_elderB (PV HO_26) gb132 (Nat.le_of_eq hg.symm)) hb); replace HL131_5 := ak (Kd.V_below (Kd.V_elderB (PV HL131_5) gb132 (Nat.le_of_eq hg.symm)) hb); replace HR131_5 := Cb HR131_5 hb; have BK132 := ak hbox; have GW132 := gy hg HB; have GE132 := gy hg HB; replace HB := bs HB hb; have NB127_132 := gm hg BK127; have NB132_127 := gn hg BK127; replace BK127 := kf BK127 hb; have NB128_132 := gm hg BK128; have NB132_128 := gn hg BK128; replace BK128 := kf BK128 hb; clear hb hbox hg; have hnb35 := NB132_127.out; have hnc35 := NB127_132.out; have hnb36 := NB132_128.out; have hnc36 := NB128_132.out; obtain ⟨hcz37_0, hcz37_1, hcz37_2, hcz37_3, hcz37_4, hcz37_5, hcz37_6, hcz37_7, hcz37_8, hfz37_0, hfz37_1, hfz37_2, hfz37_3, hfz37_4, hfz37_5, hfz37_6, hfz37_7, hfz37_8⟩ := bc9 BK132; have hnb38 := NB127_128.out; have hnc38 := NB128_127.out; obtain ⟨hcz39_0, hcz39_1, hcz39_2, hfz39_0, hfz39_1, hfz39_2⟩ := bc3 BK127) | ((with_reducible refine gate_callee (f := 115) rfl ?_); refine goesL_ (some 34) rfl rfl Try.func115 KR rfl #[.agg #[.int .i64 ((rd_T40 l0 x28_2).f0.f0), .int .i64 ((rd_T40 l0 x28_2).f0.f1), .int .i64 ((rd_T40 l0 x28_2).f0.f2), .int .i64 ((rd_T40 l0 x28_2).f1), .int .i64 ((rd_T40 l0 x28_2).f2.f0), .slice A131_5 ((rd_T40 l0 x28_2).f2.f1).length c131_5, .int .i64 ((rd_T40 l0 x28_2).f2.f2.f0), .int .i64 ((rd_T40 l0 x28_2).f2.f2.f1), .int .i64 ((rd_T40 l0 x28_2).f2.f2.f2)], .agg #[.int .i64 a1_0, .int .i64 a1_1, .int .i64 a1_2]] rfl AR ?_; (with_reducible refine (impl_sameForm.calls ((rd_T40 l0 x28_2).f0.f0) ((rd_T40 l0 x28_2).f0.f1) ((rd_T40 l0 x28_2).f0.f2) ((rd_T40 l0 x28_2).f1) ((rd_T40 l0 x28_2).f2.f0) _ _ ((rd_T40 l0 x28_2).f2.f1) ((rd_T40 l0 x28_2).f2.f2.f0) ((rd_T40 l0 x28_2).f2.f2.f1) ((rd_T40 l0 x28_2).f2.f2.f2) a1_0 a1_1 a1_2 true _ ?side1 ?side2 A20.out).mono ?_); (case side1 => repeat (first | exact ((Kd.V_reads' (VX (Kd.V_mono HL131_5.out (fun k_ hk => (⟨hk, hk.2⟩ : _ ∧ k_ ≠ gb132))) (fun _ h_ => h_.1))).2.2) | (with_reducible refine Kd.C_alloc ?_ _) | (with_reducible refine Kd.C_drewN ?_ _) | (with_reducible refine Kd.C_drew ?_))); (case side2 => exact HC131_5.out); rintro e w40 ⟨rfl, hb⟩; refine ⟨_, rfl, ?_⟩; replace HO_5 := ak (Kd.N_below (NX (Kd.N_mono HO_5.out (fun k_ hk => (⟨hk, hk.2⟩ : _ ∧ k_ ≠ gb132))) (fun _ h_ => h_.1)) hb); replace HO_26 := ak (Kd.V_below (VX (Kd.V_mono HO_26.out (fun k_ hk => (⟨hk, hk.2⟩ : _ ∧ k_ ≠ gb132))) (fun _ h_ => h_.1)) hb); replace BK127 := kf BK127 hb; replace BK128 := kf BK128 hb; replace HR131_5 := ak (Kd.C_below ((Kd.V_reads' (VX (Kd.V_mono HL131_5.out (fun k_ hk => (⟨hk, hk.2⟩ : _ ∧ k_ ≠ gb132))) (fun _ h_ => h_.1))).2.2) hb); replace HL131_5 := ak (Kd.V_below (VX (Kd.V_mono HL131_5.out (fun k_ hk => (⟨hk, hk.2⟩ : _ ∧ k_ ≠ gb132))) (fun _ h_ => h_.1)) hb); replace BK132 := kp (cs' := #[.int .i64 ((rd_T40 l0 x28_2).f0.f0), .int .i64 ((rd_T40 l0 x28_2).f0.f1), .int .i64 ((rd_T40 l0 x28_2).f0.f2), .int .i64 ((rd_T40 l0 x28_2).f1), .int .i64 ((rd_T40 l0 x28_2).f2.f0), .slice A131_5 ((rd_T40 l0 x28_2).f2.f1).length c131_5, .int .i64 ((rd_T40 l0 x28_2).f2.f2.f0), .int .i64 ((rd_T40 l0 x28_2).f2.f2.f1), .int .i64 ((rd_T40 l0 x28_2).f2.f2.f2)]) BK132 hb; replace HB := bs HB hb; (try clear hb); (try clear hb2); (try clear hk); (try clear hi); obtain ⟨hcz41_0, hcz41_1, hcz41_2, hcz41_3, hcz41_4, hcz41_5, hcz41_6, hcz41_7, hcz41_8, hfz41_0, hfz41_1, hfz41_2, hfz41_3, hfz41_4, hfz41_5, hfz41_6, hfz41_7, hfz41_8⟩ := bc9 BK132) | (go_at_call 95; (with_reducible refine (impl_hasBody.calls ((rd_T40 l0 x28_2).f2.f0) false _ A22.out).mono ?_); rintro e w' ⟨rfl, ⟨nd, rfl⟩⟩))
           go_roundg k2
           case measure => have := HJ2.out; have := HK2.out; omega
           case rel => exact ⟨(x5_2), (wrap64 (x28_2 + 1)), (by first | rfl | (simp; done) | (simp [*]; done)), H', ⟨by have := HJ2.out; have := HK2.out; omega⟩, ⟨NX HO_5.out (fun _ hk => ⟨hk.1.1, ⟨hk.1.2.1, hk.1.2.2⟩⟩)⟩, ⟨VX HO_26.out (fun _ hk => ⟨hk.1.1, ⟨hk.1.2.1, ⟨hk.1.2.2.1, hk.1.2.2.2⟩⟩⟩)⟩, ⟨PK BK127⟩, ⟨PK BK128⟩, ⟨PB⟩⟩
         ·replace c21 := Bool.eq_false_iff.mpr c21
          subst c21
          have H1 : (impl_LearnForm.l0 k2 x5_2 l0 (l0.length : Int) (wrap64 (x28_2 + 1)) a1_0 a1_1 a1_2) = some (r1, r2, r3, r4) := by rw [if_neg (show ¬ (false = true) by decide)] at H; exact H
          clear H
          have H := H1
          clear H1
          have H' := Aside0.mk H
          clear H
          have p131 : 0 ≤ (x28_2 : Int) := of_decide_eq_true (by first | (with_reducible assumption) | assumption)
          have q131 : x28_2 < (l0.length : Int) := of_decide_eq_true (by first | (with_reducible assumption) | assumption)
          obtain ⟨ad131, A131_5, c131_5, e131, hx131_0, hx131_1, hx131_2, hx131_3, hx131_4, hx131_5, hx131_6, hx131_7, hx131_8, hl131_5, hi131_5⟩ := at_T40 (Kd.V_reads' HO_26.out).2.2 x28_2 p131 q131
          cases e131
          obtain ⟨ce131, hce131, hMe131, hcc131⟩ := Kd.V_get HO_26.out z40 x28_2 p131 (by first | exact q131 | exact of_decide_eq_true (by first | (with_reducible assumption) | assumption) | (have e_ := (Kd.V_reads' HO_26.out).1; omega))
          obtain ⟨ua131_5, uc131_5, rfl, ul131_5, ge131_5⟩ := k40_openF hMe131
          have hv131_5 := hcc131 5 _ rfl
          rw [add_field _ _ 5 (by omega)] at hv131_5
          replace hv131_5 := Option.some.inj (hv131_5.symm.trans hx131_5)
          injection hv131_5 with hva_ hvn_ hvc_
          rw [hva_] at ge131_5
          rw [hvc_] at ul131_5
          have HL131_5 := ak (show Kd.V (Kd.int .i64) 3 _ w.heap.size _ _ ((rd_T40 l0 x28_2).f2.f1) from Kd.V_mk ul131_5 ge131_5)
          clear hva_ hvn_ hvc_ ge131_5 ul131_5
          clear hcc131 hce131
          have HR131_5 := Aside0.mk hi131_5
          have HC131_5 := Aside0.mk hl131_5
          clear hi131_5 hl131_5
          replace p131 := eq_true p131
          replace q131 := eq_true q131
          go_wp2_with (first | ((with_reducible refine gate_dst (N := 7) rfl ?_); refine bx_ (N := 7) #[.int .i64 0, .int .i64 0, .int .i64 0, .int .i64 0, .int .i64 0, .slice none 0 0, .int .i64 0, .int .i64 0, .int .i64 0] 40 ?_; intro gb132 hg w42 hbox hb; replace HO_5 := ak (Kd.N_below (Kd.N_elderB (PN HO_5) gb132 (Nat.le_of_eq hg.symm)) hb); replace HO_26 := ak (Kd.V_below (Kd.V_elderB (PV HO_26) gb132 (Nat.le_of_eq hg.symm)) hb); replace HL131_5 := ak (Kd.V_below (Kd.V_elderB (PV HL131_5) gb132 (Nat.le_of_eq hg.symm)) hb); replace HR131_5 := Cb HR131_5 hb; have BK132 := ak hbox; have GW132 := gy hg HB; have GE132 := gy hg HB; replace HB := bs HB hb; have NB127_132 := gm hg BK127; have NB132_127 := gn hg BK127; replace BK127 := kf BK127 hb; have NB128_132 := gm hg BK128; have NB132_128 := gn hg BK128; replace BK128 := kf BK128 hb; clear hb hbox hg; have hnb43 := NB132_127.out; have hnc43 := NB127_132.out; have hnb44 := NB132_128.out; have hnc44 := NB128_132.out; obtain ⟨hcz45_0, hcz45_1, hcz45_2, hcz45_3, hcz45_4, hcz45_5, hcz45_6, hcz45_7, hcz45_8, hfz45_0, hfz45_1, hfz45_2, hfz45_3, hfz45_4, hfz45_5, hfz45_6, hfz45_7, hfz45_8⟩ := bc9 BK132; have hnb46 := NB127_128.out; have hnc46 := NB128_127.out; obtain ⟨hcz47_0, hcz47_1, hcz47_2, hfz47_0, hfz47_1, hfz47_2⟩ := bc3 BK127) | ((with_reducible refine gate_callee (f := 115) rfl ?_); refine goesL_ (some 34) rfl rfl Try.func115 KR rfl #[.agg #[.int .i64 ((rd_T40 l0 x28_2).f0.f0), .int .i64 ((rd_T40 l0 x28_2).f0.f1), .int .i64 ((rd_T40 l0 x28_2).f0.f2), .int .i64 ((rd_T40 l0 x28_2).f1), .int .i64 ((rd_T40 l0 x28_2).f2.f0), .slice A131_5 ((rd_T40 l0 x28_2).f2.f1).length c131_5, .int .i64 ((rd_T40 l0 x28_2).f2.f2.f0), .int .i64 ((rd_T40 l0 x28_2).f2.f2.f1), .int .i64 ((rd_T40 l0 x28_2).f2.f2.f2)], .agg #[.int .i64 a1_0, .int .i64 a1_1, .int .i64 a1_2]] rfl AR ?_; (with_reducible refine (impl_sameForm.calls ((rd_T40 l0 x28_2).f0.f0) ((rd_T40 l0 x28_2).f0.f1) ((rd_T40 l0 x28_2).f0.f2) ((rd_T40 l0 x28_2).f1) ((rd_T40 l0 x28_2).f2.f0) _ _ ((rd_T40 l0 x28_2).f2.f1) ((rd_T40 l0 x28_2).f2.f2.f0) ((rd_T40 l0 x28_2).f2.f2.f1) ((rd_T40 l0 x28_2).f2.f2.f2) a1_0 a1_1 a1_2 false _ ?side1 ?side2 A20.out).mono ?_); (case side1 => repeat (first | exact ((Kd.V_reads' (VX (Kd.V_mono HL131_5.out (fun k_ hk => (⟨hk, hk.2⟩ : _ ∧ k_ ≠ gb132))) (fun _ h_ => h_.1))).2.2) | (with_reducible refine Kd.C_alloc ?_ _) | (with_reducible refine Kd.C_drewN ?_ _) | (with_reducible refine Kd.C_drew ?_))); (case side2 => exact HC131_5.out); rintro e w48 ⟨rfl, hb⟩; refine ⟨_, rfl, ?_⟩; replace HO_5 := ak (Kd.N_below (NX (Kd.N_mono HO_5.out (fun k_ hk => (⟨hk, hk.2⟩ : _ ∧ k_ ≠ gb132))) (fun _ h_ => h_.1)) hb); replace HO_26 := ak (Kd.V_below (VX (Kd.V_mono HO_26.out (fun k_ hk => (⟨hk, hk.2⟩ : _ ∧ k_ ≠ gb132))) (fun _ h_ => h_.1)) hb); replace BK127 := kf BK127 hb; replace BK128 := kf BK128 hb; replace HR131_5 := ak (Kd.C_below ((Kd.V_reads' (VX (Kd.V_mono HL131_5.out (fun k_ hk => (⟨hk, hk.2⟩ : _ ∧ k_ ≠ gb132))) (fun _ h_ => h_.1))).2.2) hb); replace HL131_5 := ak (Kd.V_below (VX (Kd.V_mono HL131_5.out (fun k_ hk => (⟨hk, hk.2⟩ : _ ∧ k_ ≠ gb132))) (fun _ h_ => h_.1)) hb); replace BK132 := kp (cs' := #[.int .i64 ((rd_T40 l0 x28_2).f0.f0), .int .i64 ((rd_T40 l0 x28_2).f0.f1), .int .i64 ((rd_T40 l0 x28_2).f0.f2), .int .i64 ((rd_T40 l0 x28_2).f1), .int .i64 ((rd_T40 l0 x28_2).f2.f0), .slice A131_5 ((rd_T40 l0 x28_2).f2.f1).length c131_5, .int .i64 ((rd_T40 l0 x28_2).f2.f2.f0), .int .i64 ((rd_T40 l0 x28_2).f2.f2.f1), .int .i64 ((rd_T40 l0 x28_2).f2.f2.f2)]) BK132 hb; replace HB := bs HB hb; (try clear hb); (try clear hb2); (try clear hk); (try clear hi)))
          go_roundg k2
          case measure => have := HJ2.out; have := HK2.out; omega
          case rel => exact ⟨(x5_2), (wrap64 (x28_2 + 1)), (by first | rfl | (simp; done) | (simp [*]; done)), H', ⟨by have := HJ2.out; have := HK2.out; omega⟩, ⟨NX HO_5.out (fun _ hk => ⟨hk.1.1, ⟨hk.1.2.1, hk.1.2.2⟩⟩)⟩, ⟨VX HO_26.out (fun _ hk => ⟨hk.1.1, ⟨hk.1.2.1, ⟨hk.1.2.2.1, hk.1.2.2.2⟩⟩⟩)⟩, ⟨PK BK127⟩, ⟨PK BK128⟩, ⟨PB⟩⟩
        ·rw [if_neg c19] at H
         exact absurd H (by simp)
       ·rw [if_neg c18] at H
        exact absurd H (by simp)
      ·rw [if_neg c17] at H
       have c17b0 : decide (x28_2 < (l0.length : Int)) = false := decide_eq_false c17
       clear c17
       by_cases c49 : (x5_2.length : Int) = 0
       ·rw [if_pos c49] at H
        have c49b0 : ((x5_2.length : Int) == 0) = true := beq_iff_eq.mpr c49
        have c49b1 : ((x5_2.length : Int) != 0) = false := bne_eq_false_iff_eq.mpr c49
        clear c49
        simp only [Option.some.injEq, Prod.mk.injEq] at H
        obtain ⟨rfl, rfl, rfl, rfl⟩ := H
        obtain ⟨Ao50, co50, eo50⟩ := Kd.N_slice HO_5.out
        subst eo50
        go_wp2_with (first | ((with_reducible refine gate_dst (N := 8) rfl ?_); refine bx_ (N := 8) #[.int .i64 0, .int .i64 0, .int .i64 0, .bool false] 85 ?_; intro gb138 hg w51 hbox hb; replace HO_5 := ak (Kd.N_below (Kd.N_elderB (PN HO_5) gb138 (Nat.le_of_eq hg.symm)) hb); replace HO_26 := ak (Kd.V_below (Kd.V_elderB (PV HO_26) gb138 (Nat.le_of_eq hg.symm)) hb); have BK138 := ak hbox; have GW138 := gy hg HB; have GE138 := gy hg HB; replace HB := bs HB hb; have NB127_138 := gm hg BK127; have NB138_127 := gn hg BK127; replace BK127 := kf BK127 hb; have NB128_138 := gm hg BK128; have NB138_128 := gn hg BK128; replace BK128 := kf BK128 hb; clear hb hbox hg; have hnb52 := NB138_127.out; have hnc52 := NB127_138.out; have hnb53 := NB138_128.out; have hnc53 := NB128_138.out; obtain ⟨hcz54_0, hcz54_1, hcz54_2, hcz54_3, hfz54_0, hfz54_1, hfz54_2, hfz54_3⟩ := bc4 BK138; have hnb55 := NB128_127.out; have hnc55 := NB127_128.out; obtain ⟨hcz56_0, hcz56_1, hcz56_2, hcz56_3, hfz56_0, hfz56_1, hfz56_2, hfz56_3⟩ := bc4 BK128))
        refine bodyPost_ret (results_cell_row rfl _ _ gb128 85 #[.int .i64 0, .int .i64 0, .int .i64 (x5_2.length : Int), .bool true] (0, 0) _ rfl (PX BK128) Try.underlying85 rfl KR) rfl ?_
        exact ⟨RT, PB⟩
       ·rw [if_neg c49] at H
        have c49b0 : ((x5_2.length : Int) == 0) = false := beq_eq_false_iff_ne.mpr c49
        have c49b1 : ((x5_2.length : Int) != 0) = true := bne_iff_ne.mpr c49
        have c49b2 : ¬ (x5_2 = []) := fun h_ => c49 (by rw [h_]; rfl)
        by_cases c57 : 0 < (x5_2.length : Int)
        ·rw [if_pos c57] at H
         have c57b0 : decide (0 < (x5_2.length : Int)) = true := decide_eq_true c57
         have c57b1 : decide (0 < x5_2.length) = true := decide_eq_true (by omega)
         clear c57
         replace H := Option.bind_eq_some_iff.mp H
         obtain ⟨t141, A580, H⟩ := H
         replace H : (impl_LearnForm.l1 k2 x5_2 ((rd_T40 x5_2 0).f0.f2) t141 x5_2 (x5_2.length : Int) 0 t141 0 (x5_2.length : Int) true) = some (r1, r2, r3, r4) := H
         have A58 := Aside0.mk A580
         clear A580
         have HC59 := Aside0.mk H
         clear H
         obtain ⟨Ao60, co60, eo60⟩ := Kd.N_slice HO_5.out
         subst eo60
         try go_wp2_with (first | ((with_reducible refine gate_dst (N := 8) rfl ?_); refine bx_ (N := 8) #[.int .i64 0, .int .i64 0, .int .i64 0, .bool false] 85 ?_; intro gb138 hg w61 hbox hb; replace HO_5 := ak (Kd.N_below (Kd.N_elderB (PN HO_5) gb138 (Nat.le_of_eq hg.symm)) hb); replace HO_26 := ak (Kd.V_below (Kd.V_elderB (PV HO_26) gb138 (Nat.le_of_eq hg.symm)) hb); have BK138 := ak hbox; have GW138 := gy hg HB; have GE138 := gy hg HB; replace HB := bs HB hb; have NB127_138 := gm hg BK127; have NB138_127 := gn hg BK127; replace BK127 := kf BK127 hb; have NB128_138 := gm hg BK128; have NB138_128 := gn hg BK128; replace BK128 := kf BK128 hb; clear hb hbox hg; have hnb62 := NB138_127.out; have hnc62 := NB127_138.out; have hnb63 := NB138_128.out; have hnc63 := NB128_138.out; obtain ⟨hcz64_0, hcz64_1, hcz64_2, hcz64_3, hfz64_0, hfz64_1, hfz64_2, hfz64_3⟩ := bc4 BK138))
         generalize hW_ : ((((w61.setCell ⟨gb138, 0, none⟩ (.int .i64 0)).setCell ⟨gb138, 1, none⟩ (.int .i64 0)).setCell ⟨gb138, 2, none⟩ (.int .i64 (x5_2.length : Int))).setCell ⟨gb138, 3, none⟩ (.bool true)) = w65
         replace HO_5 : Aside0 (Kd.N k40 40 w65 w.heap.size (fun k_ => (P0_ k_ ∨ w.heap.size ≤ k_) ∧ k_ ≠ gb127 ∧ k_ ≠ gb128 ∧ k_ ≠ gb138) (.slice Ao60 x5_2.length co60) x5_2) := ⟨by rw [← hW_]; exact NX (Kd.N_mono HO_5.out (fun k_ hk => (⟨hk, hk.2⟩ : _ ∧ k_ ≠ gb138))) (fun _ hk => ⟨hk.1.1.1, ⟨hk.1.1.2.1, ⟨hk.1.1.2.2, hk.1.2⟩⟩⟩)⟩
         replace HO_26 : Aside0 (Kd.V k40 40 w65 w.heap.size (fun k_ => (P0_ k_ ∨ w.heap.size ≤ k_) ∧ some k_ ≠ (.slice Ao60 x5_2.length co60 : Value).ownBlock ∧ k_ ≠ gb127 ∧ k_ ≠ gb128 ∧ k_ ≠ gb138) (.slice A0 l0.length c0) l0) := ⟨by rw [← hW_]; exact VX (Kd.V_mono HO_26.out (fun k_ hk => (⟨hk, hk.2⟩ : _ ∧ k_ ≠ gb138))) (fun _ hk => ⟨hk.1.1.1, ⟨hk.1.1.2.1, ⟨hk.1.1.2.2.1, ⟨hk.1.1.2.2.2, hk.1.2⟩⟩⟩⟩)⟩
         replace BK127 := BE hW_ BK127
         replace BK128 := BE hW_ BK128
         replace BK138 : Aside0 (w65.heap[gb138]? = some (.cells #[.int .i64 0, .int .i64 0, .int .i64 (x5_2.length : Int), .bool true] 85 (0, 0))) := BP hW_ BK138
         replace HB := BL hW_ HB
         (try clear hW_)
         replace HO_5 := ak (Kd.N_drew HO_5.out)
         replace HO_26 := ak (Kd.V_drew HO_26.out)
         replace BK127 := ak (blk_drew BK127.out)
         replace BK128 := ak (blk_drew BK128.out)
         replace BK138 := ak (blk_drew BK138.out)
         replace HB := ak (below_drew1 HB.out)
         have p139 : 0 ≤ (0 : Int) := (by omega)
         have q139 : 0 < (x5_2.length : Int) := of_decide_eq_true (by first | (with_reducible assumption) | assumption)
         obtain ⟨ad139, A139_5, c139_5, e139, hx139_0, hx139_1, hx139_2, hx139_3, hx139_4, hx139_5, hx139_6, hx139_7, hx139_8, hl139_5, hi139_5⟩ := at_T40 (Kd.N_reads' HO_5.out).2.2 0 p139 q139
         cases e139
         obtain ⟨ce139, hce139, hMe139, hcc139⟩ := Kd.N_get HO_5.out z40 0 p139 (by first | exact q139 | exact of_decide_eq_true (by first | (with_reducible assumption) | assumption) | (have e_ := (Kd.N_reads' HO_5.out).1; omega))
         obtain ⟨ua139_5, uc139_5, rfl, ul139_5, ge139_5⟩ := k40_openF hMe139
         have hv139_5 := hcc139 5 _ rfl
         rw [add_field _ _ 5 (by omega)] at hv139_5
         replace hv139_5 := Option.some.inj (hv139_5.symm.trans hx139_5)
         injection hv139_5 with hva_ hvn_ hvc_
         rw [hva_] at ge139_5
         rw [hvc_] at ul139_5
         have HL139_5 := ak (show Kd.V (Kd.int .i64) 3 _ w.heap.size _ _ ((rd_T40 x5_2 0).f2.f1) from Kd.V_mk ul139_5 ge139_5)
         clear hva_ hvn_ hvc_ ge139_5 ul139_5
         clear hcc139 hce139
         have qi139 : (0 < x5_2.length) = True := eq_true (by omega)
         (try rw [show ((0 : Int)).toNat = 0 from rfl] at hx139_0)
         (try rw [show 0 * 9 = 0 from rfl] at hx139_0)
         (try rw [Addr.add_zero'] at hx139_0)
         (try rw [show ((0 : Int)).toNat = 0 from rfl] at hx139_1)
         (try rw [show 0 * 9 = 0 from rfl] at hx139_1)
         (try rw [Addr.add_zero'] at hx139_1)
         (try rw [show ((0 : Int)).toNat = 0 from rfl] at hx139_2)
         (try rw [show 0 * 9 = 0 from rfl] at hx139_2)
         (try rw [Addr.add_zero'] at hx139_2)
         (try rw [show ((0 : Int)).toNat = 0 from rfl] at hx139_3)
         (try rw [show 0 * 9 = 0 from rfl] at hx139_3)
         (try rw [Addr.add_zero'] at hx139_3)
         (try rw [show ((0 : Int)).toNat = 0 from rfl] at hx139_4)
         (try rw [show 0 * 9 = 0 from rfl] at hx139_4)
         (try rw [Addr.add_zero'] at hx139_4)
         (try rw [show ((0 : Int)).toNat = 0 from rfl] at hx139_5)
         (try rw [show 0 * 9 = 0 from rfl] at hx139_5)
         (try rw [Addr.add_zero'] at hx139_5)
         (try rw [show ((0 : Int)).toNat = 0 from rfl] at hx139_6)
         (try rw [show 0 * 9 = 0 from rfl] at hx139_6)
         (try rw [Addr.add_zero'] at hx139_6)
         (try rw [show ((0 : Int)).toNat = 0 from rfl] at hx139_7)
         (try rw [show 0 * 9 = 0 from rfl] at hx139_7)
         (try rw [Addr.add_zero'] at hx139_7)
         (try rw [show ((0 : Int)).toNat = 0 from rfl] at hx139_8)
         (try rw [show 0 * 9 = 0 from rfl] at hx139_8)
         (try rw [Addr.add_zero'] at hx139_8)
         have HR139_5 := Aside0.mk hi139_5
         have HC139_5 := Aside0.mk hl139_5
         clear hi139_5 hl139_5
         replace p139 := eq_true p139
         replace q139 := eq_true q139
         have p140 : 0 ≤ (0 : Int) := (by omega)
         have q140 : 0 < (x5_2.length : Int) := of_decide_eq_true (by first | (with_reducible assumption) | assumption)
         obtain ⟨ad140, A140_5, c140_5, e140, hx140_0, hx140_1, hx140_2, hx140_3, hx140_4, hx140_5, hx140_6, hx140_7, hx140_8, hl140_5, hi140_5⟩ := at_T40 (Kd.N_reads' HO_5.out).2.2 0 p140 q140
         obtain rfl : ad139 = ad140 := (by injection e140)
         obtain ⟨ce140, hce140, hMe140, hcc140⟩ := Kd.N_get HO_5.out z40 0 p140 (by first | exact q140 | exact of_decide_eq_true (by first | (with_reducible assumption) | assumption) | (have e_ := (Kd.N_reads' HO_5.out).1; omega))
         obtain ⟨ua140_5, uc140_5, rfl, ul140_5, ge140_5⟩ := k40_openF hMe140
         have hv140_5 := hcc140 5 _ rfl
         rw [add_field _ _ 5 (by omega)] at hv140_5
         replace hv140_5 := Option.some.inj (hv140_5.symm.trans hx140_5)
         injection hv140_5 with hva_ hvn_ hvc_
         rw [hva_] at ge140_5
         rw [hvc_] at ul140_5
         have HL140_5 := ak (show Kd.V (Kd.int .i64) 3 _ w.heap.size _ _ ((rd_T40 x5_2 0).f2.f1) from Kd.V_mk ul140_5 ge140_5)
         clear hva_ hvn_ hvc_ ge140_5 ul140_5
         clear hcc140 hce140
         have qi140 : (0 < x5_2.length) = True := eq_true (by omega)
         (try rw [show ((0 : Int)).toNat = 0 from rfl] at hx140_0)
         (try rw [show 0 * 9 = 0 from rfl] at hx140_0)
         (try rw [Addr.add_zero'] at hx140_0)
         (try rw [show ((0 : Int)).toNat = 0 from rfl] at hx140_1)
         (try rw [show 0 * 9 = 0 from rfl] at hx140_1)
         (try rw [Addr.add_zero'] at hx140_1)
         (try rw [show ((0 : Int)).toNat = 0 from rfl] at hx140_2)
         (try rw [show 0 * 9 = 0 from rfl] at hx140_2)
         (try rw [Addr.add_zero'] at hx140_2)
         (try rw [show ((0 : Int)).toNat = 0 from rfl] at hx140_3)
         (try rw [show 0 * 9 = 0 from rfl] at hx140_3)
         (try rw [Addr.add_zero'] at hx140_3)
         (try rw [show ((0 : Int)).toNat = 0 from rfl] at hx140_4)
         (try rw [show 0 * 9 = 0 from rfl] at hx140_4)
         (try rw [Addr.add_zero'] at hx140_4)
         (try rw [show ((0 : Int)).toNat = 0 from rfl] at hx140_5)
         (try rw [show 0 * 9 = 0 from rfl] at hx140_5)
         (try rw [Addr.add_zero'] at hx140_5)
         (try rw [show ((0 : Int)).toNat = 0 from rfl] at hx140_6)
         (try rw [show 0 * 9 = 0 from rfl] at hx140_6)
         (try rw [Addr.add_zero'] at hx140_6)
         (try rw [show ((0 : Int)).toNat = 0 from rfl] at hx140_7)
         (try rw [show 0 * 9 = 0 from rfl] at hx140_7)
         (try rw [Addr.add_zero'] at hx140_7)
         (try rw [show ((0 : Int)).toNat = 0 from rfl] at hx140_8)
         (try rw [show 0 * 9 = 0 from rfl] at hx140_8)
         (try rw [Addr.add_zero'] at hx140_8)
         have HR140_5 := Aside0.mk hi140_5
         have HC140_5 := Aside0.mk hl140_5
         clear hi140_5 hl140_5
         replace p140 := eq_true p140
         replace q140 := eq_true q140
         have ea_ := Option.some.inj (hx139_5.symm.trans hx140_5)
         injection ea_ with ea_ en_ ec_
         subst ea_
         subst ec_
         clear en_
         refine start_ (n := 12) (S := fun w' => w'.cell? ad139 = some (.int .i64 ((rd_T40 x5_2 0).f0.f0)) ∧ w'.cell? ⟨ad139.block, ad139.off + 1, none⟩ = some (.int .i64 ((rd_T40 x5_2 0).f0.f1)) ∧ w'.cell? ⟨ad139.block, ad139.off + 2, none⟩ = some (.int .i64 ((rd_T40 x5_2 0).f0.f2)) ∧ w'.cell? ⟨ad139.block, ad139.off + 3, none⟩ = some (.int .i64 ((rd_T40 x5_2 0).f1)) ∧ w'.cell? ⟨ad139.block, ad139.off + 4, none⟩ = some (.int .i64 ((rd_T40 x5_2 0).f2.f0)) ∧ w'.cell? ⟨ad139.block, ad139.off + 5, none⟩ = some (.slice A139_5 ((rd_T40 x5_2 0).f2.f1).length c139_5) ∧ w'.cell? ⟨ad139.block, ad139.off + 6, none⟩ = some (.int .i64 ((rd_T40 x5_2 0).f2.f2.f0)) ∧ w'.cell? ⟨ad139.block, ad139.off + 7, none⟩ = some (.int .i64 ((rd_T40 x5_2 0).f2.f2.f1)) ∧ w'.cell? ⟨ad139.block, ad139.off + 8, none⟩ = some (.int .i64 ((rd_T40 x5_2 0).f2.f2.f2)) ∧ w'.cell? ad139 = some (.int .i64 ((rd_T40 x5_2 0).f0.f0)) ∧ w'.cell? ⟨ad139.block, ad139.off + 1, none⟩ = some (.int .i64 ((rd_T40 x5_2 0).f0.f1)) ∧ w'.cell? ⟨ad139.block, ad139.off + 2, none⟩ = some (.int .i64 ((rd_T40 x5_2 0).f0.f2)) ∧ w'.cell? ⟨ad139.block, ad139.off + 3, none⟩ = some (.int .i64 ((rd_T40 x5_2 0).f1)) ∧ w'.cell? ⟨ad139.block, ad139.off + 4, none⟩ = some (.int .i64 ((rd_T40 x5_2 0).f2.f0)) ∧ w'.cell? ⟨ad139.block, ad139.off + 5, none⟩ = some (.slice A139_5 ((rd_T40 x5_2 0).f2.f1).length c139_5) ∧ w'.cell? ⟨ad139.block, ad139.off + 6, none⟩ = some (.int .i64 ((rd_T40 x5_2 0).f2.f2.f0)) ∧ w'.cell? ⟨ad139.block, ad139.off + 7, none⟩ = some (.int .i64 ((rd_T40 x5_2 0).f2.f2.f1)) ∧ w'.cell? ⟨ad139.block, ad139.off + 8, none⟩ = some (.int .i64 ((rd_T40 x5_2 0).f2.f2.f2))) (ds := []) #[false, false, false, false, false, false, false, false, false, false, false, false] KR rfl rfl ⟨hx139_0, hx139_1, hx139_2, hx139_3, hx139_4, hx139_5, hx139_6, hx139_7, hx139_8, hx140_0, hx140_1, hx140_2, hx140_3, hx140_4, hx140_5, hx140_6, hx140_7, hx140_8⟩ (fun hHeld => ?_); refine with_tabW impl_LearnForm.tab13 impl_LearnForm.bits13 (fun HT_ HW_ => ?_)
         generalize w65.drew = w66 at HO_5 HO_26 BK127 BK128 BK138 HB HL139_5 HL140_5 HR139_5 HR140_5 hx139_0 hx139_1 hx139_2 hx139_3 hx139_4 hx139_5 hx139_6 hx139_7 hx139_8 hx140_0 hx140_1 hx140_2 hx140_3 hx140_4 hx140_5 hx140_6 hx140_7 hx140_8 hHeld ⊢
         refine pu_ (i := 0) (N := some 53) #[true, false, false, false, false, false, false, false, false, false, false, false] HT_ ?_
         refine pu_ (i := 1) (N := some 54) #[true, true, false, false, false, false, false, false, false, false, false, false] HT_ ?_
         refine pu_ (i := 2) (N := some 55) #[true, true, true, false, false, false, false, false, false, false, false, false] HT_ ?_
         refine pu_ (i := 3) (N := some 56) #[true, true, true, true, false, false, false, false, false, false, false, false] HT_ ?_
         refine pu_ (i := 5) (N := some 58) #[true, true, true, true, false, true, false, false, false, false, false, false] HT_ ?_
         refine pu_ (i := 6) (N := some 59) #[true, true, true, true, false, true, true, false, false, false, false, false] HT_ ?_
         refine pu_ (i := 7) (N := some 60) #[true, true, true, true, false, true, true, true, false, false, false, false] HT_ ?_
         refine tk_ (i := 4) (N := some 57) #[true, true, true, true, true, true, true, true, false, false, false, false] rfl rfl HT_ HW_ hHeld ?_
         refine take_ (i := 8) (N := some 61) (v := ?_) (a' := ?_) #[true, true, true, true, true, true, true, true, true, false, false, false] rfl rfl (take_ofW HT_.out HW_.out KR) (fun _ _ _ h => h) (Or.inl ⟨by rfl, ?_⟩) hHeld ?_ ?_
         rotate_left
         ·rintro w' ⟨s0, s1, s2, s3, s4, s5, s6, s7, s8, s9, s10, s11, s12, s13, s14, s15, s16, s17⟩
          go_simp
          with_reducible rfl
         rotate_left
         ·simp only [Act.put, List.setIfInBounds_toArray, List.set_cons_zero, List.set_cons_succ, i64_w, i32_w]
          rfl
         refine one_ (i := 9) (N := some 62) #[true, true, true, true, true, true, true, true, true, true, false, false] rfl rfl (one_of HT_.out KR) (by decide) (fun K hK => ?_)
         refine goes_ Try.func35 KR rfl #[.agg #[.int .i64 ((rd_T40 x5_2 0).f2.f0), .slice A139_5 ((rd_T40 x5_2 0).f2.f1).length c139_5, .int .i64 ((rd_T40 x5_2 0).f2.f2.f0), .int .i64 ((rd_T40 x5_2 0).f2.f2.f1), .int .i64 ((rd_T40 x5_2 0).f2.f2.f2)]] (by rfl) rfl rfl AR ?_
         with_reducible refine (impl_ValueOfResource.calls k2 ((rd_T40 x5_2 0).f2.f0) _ _ ((rd_T40 x5_2 0).f2.f1) ((rd_T40 x5_2 0).f2.f2.f0) ((rd_T40 x5_2 0).f2.f2.f1) ((rd_T40 x5_2 0).f2.f2.f2) t141 _ ?side1 ?side2 A58.out).mono ?_
         (case side1 => repeat (first | exact (PC HR140_5) | (with_reducible refine Kd.C_alloc ?_ _) | (with_reducible refine Kd.C_drewN ?_ _) | (with_reducible refine Kd.C_drew ?_)))
         (case side2 => exact HC140_5.out)
         rintro e w67 ⟨rfl, hb⟩
         have HS0_ := hs_ hb hHeld.1; have HS1_ := hs_ hb hHeld.2.1; have HS2_ := hs_ hb hHeld.2.2.1; have HS3_ := hs_ hb hHeld.2.2.2.1; have HS4_ := hs_ hb hHeld.2.2.2.2.1; have HS5_ := hs_ hb hHeld.2.2.2.2.2.1; have HS6_ := hs_ hb hHeld.2.2.2.2.2.2.1; have HS7_ := hs_ hb hHeld.2.2.2.2.2.2.2.1; have HS8_ := hs_ hb hHeld.2.2.2.2.2.2.2.2.1; have HS9_ := hs_ hb hHeld.2.2.2.2.2.2.2.2.2.1; have HS10_ := hs_ hb hHeld.2.2.2.2.2.2.2.2.2.2.1; have HS11_ := hs_ hb hHeld.2.2.2.2.2.2.2.2.2.2.2.1; have HS12_ := hs_ hb hHeld.2.2.2.2.2.2.2.2.2.2.2.2.1; have HS13_ := hs_ hb hHeld.2.2.2.2.2.2.2.2.2.2.2.2.2.1; have HS14_ := hs_ hb hHeld.2.2.2.2.2.2.2.2.2.2.2.2.2.2.1; have HS15_ := hs_ hb hHeld.2.2.2.2.2.2.2.2.2.2.2.2.2.2.2.1; have HS16_ := hs_ hb hHeld.2.2.2.2.2.2.2.2.2.2.2.2.2.2.2.2.1; have HS17_ := hs_ hb hHeld.2.2.2.2.2.2.2.2.2.2.2.2.2.2.2.2.2
         refine ⟨_, rfl, ?_⟩
         replace HO_5 := Nb HO_5 hb
         replace HO_26 := Vb HO_26 hb
         replace HL139_5 := Vb HL139_5 hb
         replace HL140_5 := Vb HL140_5 hb
         replace BK127 := kf BK127 hb
         replace BK128 := kf BK128 hb
         replace BK138 := kf BK138 hb
         replace HR139_5 := Cb HR139_5 hb
         replace HR140_5 := Cb HR140_5 hb
         replace HB := bs HB hb
         (try clear hb)
         (try clear hb2)
         (try clear hk)
         (try clear hi)
         refine hK.out _ _ ⟨HS0_, HS1_, HS2_, HS3_, HS4_, HS5_, HS6_, HS7_, HS8_, HS9_, HS10_, HS11_, HS12_, HS13_, HS14_, HS15_, HS16_, HS17_⟩ (fun hHeld => ?_)
         clear hK K
         refine norm_ (a' := ?_) ?_ ?_
         rotate_left
         ·show Act.put _ (some 62) _ = _
          simp only [Act.put, List.setIfInBounds_toArray, List.set_cons_zero, List.set_cons_succ, i64_w, i32_w]
          rfl
         refine pu_ (i := 10) (N := some 9) #[true, true, true, true, true, true, true, true, true, true, true, false] HT_ ?_
         refine pu_ (i := 11) (N := some 10) #[true, true, true, true, true, true, true, true, true, true, true, true] HT_ ?_
         refine done_ (done_of HT_.out KR) ?_
         obtain ⟨hcz68_0, hcz68_1, hcz68_2, hcz68_3, hfz68_0, hfz68_1, hfz68_2, hfz68_3⟩ := bc4 BK138
         go_upto_block 2 with (fail)
         go_cut [] (fun wc => ∃ (kq : Nat) (x139000_58 : Int) (x139001_58 : Int), Aside0 (impl_LearnForm.j4 kq x5_2 x139000_58 x139001_58 (x5_2.length : Int) true = some (r1, r2, r3, r4)) ∧ Aside0 (kq ≤ k2) ∧ Aside0 (Kd.N k40 40 wc w.heap.size (fun k_ => (P0_ k_ ∨ w.heap.size ≤ k_) ∧ k_ ≠ gb127 ∧ k_ ≠ gb128 ∧ k_ ≠ gb138) (.slice (some ad139) x5_2.length co60) x5_2) ∧ Aside0 (wc.heap[gb127]? = some (.cells #[.int .i64 a1_0, .int .i64 a1_1, .int .i64 a1_2] 26 (0, 0))) ∧ Aside0 (wc.heap[gb128]? = some (.cells #[.int .i64 0, .int .i64 0, .int .i64 0, .bool false] 85 (0, 0))) ∧ Aside0 (wc.heap[gb138]? = some (.cells #[.int .i64 x139000_58, .int .i64 x139001_58, .int .i64 (x5_2.length : Int), .bool true] 85 (0, 0))) ∧ Aside0 (Below w.heap.size w wc))
         case first =>
          have H := HC59.out
          clear HC59
          have H' := Aside0.mk H
          clear H
          go_wp2
          go_loopg [67] k2 (fun kq v67 w' => ∃ (x67_3 : Int) (x139000_3 : Int) (x139001_3 : Int), v67 = .int .i64 x67_3 ∧ Aside0 (impl_LearnForm.l1 kq x5_2 ((rd_T40 x5_2 0).f0.f2) t141 x5_2 (x5_2.length : Int) x67_3 x139000_3 x139001_3 (x5_2.length : Int) true = some (r1, r2, r3, r4)) ∧ Aside0 (kq ≤ k2) ∧ Aside0 (Kd.N k40 40 w' w.heap.size (fun k_ => (P0_ k_ ∨ w.heap.size ≤ k_) ∧ k_ ≠ gb127 ∧ k_ ≠ gb128 ∧ k_ ≠ gb138) (.slice (some ad139) x5_2.length co60) x5_2) ∧ Aside0 (Kd.N k40 40 w' w.heap.size (fun k_ => (P0_ k_ ∨ w.heap.size ≤ k_) ∧ k_ ≠ gb127 ∧ k_ ≠ gb128 ∧ k_ ≠ gb138) (.slice (some ad139) x5_2.length co60) x5_2) ∧ Aside0 (w'.heap[gb127]? = some (.cells #[.int .i64 a1_0, .int .i64 a1_1, .int .i64 a1_2] 26 (0, 0))) ∧ Aside0 (w'.heap[gb128]? = some (.cells #[.int .i64 0, .int .i64 0, .int .i64 0, .bool false] 85 (0, 0))) ∧ Aside0 (w'.heap[gb138]? = some (.cells #[.int .i64 x139000_3, .int .i64 x139001_3, .int .i64 (x5_2.length : Int), .bool true] 85 (0, 0))) ∧ Aside0 (Below w.heap.size w w'))
          case atStart => exact ⟨(0), (t141), (0), (by first | rfl | (simp; done) | (simp [*]; done)), H', ⟨Nat.le_refl _⟩, ⟨NX (Kd.N_mono HO_5.out (fun k_ hk => (⟨hk, hk.2.2.2⟩ : _ ∧ k_ ≠ gb138))) (fun _ hk => ⟨hk.1.1, ⟨hk.1.2.1, ⟨hk.1.2.2.1, hk.1.2.2.2⟩⟩⟩)⟩, ⟨NX (Kd.N_mono HO_5.out (fun k_ hk => (⟨hk, hk.2.2.2⟩ : _ ∧ k_ ≠ gb138))) (fun _ hk => ⟨hk.1.1, ⟨hk.1.2.1, ⟨hk.1.2.2.1, hk.1.2.2.2⟩⟩⟩)⟩, ⟨PF BK127⟩, ⟨PF BK128⟩, ⟨PX BK138⟩, ⟨PB⟩⟩
          case round =>
           clear H'
           (try clear c1); (try clear p1); (try clear q1); (try clear hx1); (try clear qi1); (try clear c2); (try clear p2); (try clear c3); (try clear c4); (try clear c5); (try clear c6); (try clear p6); (try clear c7); (try clear c10); (try clear c11); (try clear c13); (try clear p13); (try clear q13); (try clear hx13); (try clear qi13); (try clear c14); (try clear p14); (try clear q14); (try clear hx14); (try clear qi14); (try clear c15); (try clear c17); (try clear c17b0); (try clear c18); (try clear c18b0); (try clear c19); (try clear c19b0); (try clear c21); (try clear c23); (try clear c24); (try clear c26); (try clear c27); (try clear c29); (try clear c35); (try clear c36); (try clear c38); (try clear c43); (try clear c44); (try clear c46); (try clear c49); (try clear c49b0); (try clear c49b1); (try clear c49b2); (try clear c52); (try clear c53); (try clear c55); (try clear c57); (try clear c57b0); (try clear c57b1); (try clear c62); (try clear c63); (try clear p64); (try clear hcz11_0); (try clear hcz11_1); (try clear hcz11_2); (try clear hcz16_0); (try clear hcz16_1); (try clear hcz16_2); (try clear hcz16_3); (try clear hcz28_0); (try clear hcz28_1); (try clear hcz28_2); (try clear hcz28_3); (try clear hcz28_4); (try clear hcz28_5); (try clear hcz28_6); (try clear hcz28_7); (try clear hcz28_8); (try clear hcz30_0); (try clear hcz30_1); (try clear hcz30_2); (try clear hcz32_0); (try clear hcz32_1); (try clear hcz32_2); (try clear hcz32_3); (try clear hcz32_4); (try clear hcz32_5); (try clear hcz32_6); (try clear hcz32_7); (try clear hcz32_8); (try clear hcz37_0); (try clear hcz37_1); (try clear hcz37_2); (try clear hcz37_3); (try clear hcz37_4); (try clear hcz37_5); (try clear hcz37_6); (try clear hcz37_7); (try clear hcz37_8); (try clear hcz39_0); (try clear hcz39_1); (try clear hcz39_2); (try clear hcz41_0); (try clear hcz41_1); (try clear hcz41_2); (try clear hcz41_3); (try clear hcz41_4); (try clear hcz41_5); (try clear hcz41_6); (try clear hcz41_7); (try clear hcz41_8); (try clear hcz45_0); (try clear hcz45_1); (try clear hcz45_2); (try clear hcz45_3); (try clear hcz45_4); (try clear hcz45_5); (try clear hcz45_6); (try clear hcz45_7); (try clear hcz45_8); (try clear hcz47_0); (try clear hcz47_1); (try clear hcz47_2); (try clear hcz54_0); (try clear hcz54_1); (try clear hcz54_2); (try clear hcz54_3); (try clear hcz56_0); (try clear hcz56_1); (try clear hcz56_2); (try clear hcz56_3); (try clear hcz64_0); (try clear hcz64_1); (try clear hcz64_2); (try clear hcz64_3); (try clear hcz68_0); (try clear hcz68_1); (try clear hcz68_2); (try clear hcz68_3); (try clear hfz11_0); (try clear hfz11_1); (try clear hfz11_2); (try clear hfz16_0); (try clear hfz16_1); (try clear hfz16_2); (try clear hfz16_3); (try clear hfz28_0); (try clear hfz28_1); (try clear hfz28_2); (try clear hfz28_3); (try clear hfz28_4); (try clear hfz28_5); (try clear hfz28_6); (try clear hfz28_7); (try clear hfz28_8); (try clear hfz30_0); (try clear hfz30_1); (try clear hfz30_2); (try clear hfz32_0); (try clear hfz32_1); (try clear hfz32_2); (try clear hfz32_3); (try clear hfz32_4); (try clear hfz32_5); (try clear hfz32_6); (try clear hfz32_7); (try clear hfz32_8); (try clear hfz37_0); (try clear hfz37_1); (try clear hfz37_2); (try clear hfz37_3); (try clear hfz37_4); (try clear hfz37_5); (try clear hfz37_6); (try clear hfz37_7); (try clear hfz37_8); (try clear hfz39_0); (try clear hfz39_1); (try clear hfz39_2); (try clear hfz41_0); (try clear hfz41_1); (try clear hfz41_2); (try clear hfz41_3); (try clear hfz41_4); (try clear hfz41_5); (try clear hfz41_6); (try clear hfz41_7); (try clear hfz41_8); (try clear hfz45_0); (try clear hfz45_1); (try clear hfz45_2); (try clear hfz45_3); (try clear hfz45_4); (try clear hfz45_5); (try clear hfz45_6); (try clear hfz45_7); (try clear hfz45_8); (try clear hfz47_0); (try clear hfz47_1); (try clear hfz47_2); (try clear hfz54_0); (try clear hfz54_1); (try clear hfz54_2); (try clear hfz54_3); (try clear hfz56_0); (try clear hfz56_1); (try clear hfz56_2); (try clear hfz56_3); (try clear hfz64_0); (try clear hfz64_1); (try clear hfz64_2); (try clear hfz64_3); (try clear hfz68_0); (try clear hfz68_1); (try clear hfz68_2); (try clear hfz68_3); (try clear hx131_0); (try clear hx131_1); (try clear hx131_2); (try clear hx131_3); (try clear hx131_4); (try clear hx131_5); (try clear hx131_6); (try clear hx131_7); (try clear hx131_8); (try clear hx139_0); (try clear hx139_1); (try clear hx139_2); (try clear hx139_3); (try clear hx139_4); (try clear hx139_5); (try clear hx139_6); (try clear hx139_7); (try clear hx139_8); (try clear hx140_0); (try clear hx140_1); (try clear hx140_2); (try clear hx140_3); (try clear hx140_4); (try clear hx140_5); (try clear hx140_6); (try clear hx140_7); (try clear hx140_8); (try clear p131); (try clear p139); (try clear p140); (try clear p2); (try clear q131); (try clear q139); (try clear q140)
           obtain ⟨x67_3, x139000_3, x139001_3, rfl, HA, HK3, HO_5, HO_65, BK127, BK128, BK138, HB⟩ := hrel
           cases gk with
           | zero => exact absurd HA.out (by simp [impl_LearnForm.l1])
           | succ k3 =>
            have H := HA.out
            clear HA
            simp only [impl_LearnForm.l1] at H
            by_cases c69 : x67_3 < (x5_2.length : Int)
            ·rw [if_pos c69] at H
             have c69b0 : decide (x67_3 < (x5_2.length : Int)) = true := decide_eq_true c69
             clear c69
             (first | rw [c69b0] | (simp only [i64_w, i32_w]; rw [c69b0]) | skip)
             by_cases c70 : 0 ≤ x67_3
             ·rw [if_pos c70] at H
              have c70b0 : decide (0 ≤ x67_3) = true := decide_eq_true c70
              clear c70
              by_cases c71 : x67_3 < (x5_2.length : Int)
              ·rw [if_pos c71] at H
               have c71b0 : decide (x67_3 < (x5_2.length : Int)) = true := decide_eq_true c71
               clear c71
               by_cases c72 : ((rd_T40 x5_2 x67_3).f0.f2) = ((rd_T40 x5_2 0).f0.f2)
               ·rw [if_pos c72] at H
                have c72b0 : (((rd_T40 x5_2 x67_3).f0.f2) == ((rd_T40 x5_2 0).f0.f2)) = true := beq_iff_eq.mpr c72
                have c72b1 : (((rd_T40 x5_2 x67_3).f0.f2) != ((rd_T40 x5_2 0).f0.f2)) = false := bne_eq_false_iff_eq.mpr c72
                clear c72
                have H' := Aside0.mk H
                clear H
                have p142 : 0 ≤ (x67_3 : Int) := of_decide_eq_true (by first | (with_reducible assumption) | assumption)
                have q142 : x67_3 < (x5_2.length : Int) := of_decide_eq_true (by first | (with_reducible assumption) | assumption)
                obtain ⟨ad142, A142_5, c142_5, e142, hx142_0, hx142_1, hx142_2, hx142_3, hx142_4, hx142_5, hx142_6, hx142_7, hx142_8, hl142_5, hi142_5⟩ := at_T40 (Kd.N_reads' HO_65.out).2.2 x67_3 p142 q142
                obtain rfl : ad139 = ad142 := (by injection e142)
                obtain ⟨ce142, hce142, hMe142, hcc142⟩ := Kd.N_get HO_65.out z40 x67_3 p142 (by first | exact q142 | exact of_decide_eq_true (by first | (with_reducible assumption) | assumption) | (have e_ := (Kd.N_reads' HO_65.out).1; omega))
                obtain ⟨ua142_5, uc142_5, rfl, ul142_5, ge142_5⟩ := k40_openF hMe142
                have hv142_5 := hcc142 5 _ rfl
                rw [add_field _ _ 5 (by omega)] at hv142_5
                replace hv142_5 := Option.some.inj (hv142_5.symm.trans hx142_5)
                injection hv142_5 with hva_ hvn_ hvc_
                rw [hva_] at ge142_5
                rw [hvc_] at ul142_5
                have HL142_5 := ak (show Kd.V (Kd.int .i64) 3 _ w.heap.size _ _ ((rd_T40 x5_2 x67_3).f2.f1) from Kd.V_mk ul142_5 ge142_5)
                clear hva_ hvn_ hvc_ ge142_5 ul142_5
                clear hcc142 hce142
                have HR142_5 := Aside0.mk hi142_5
                have HC142_5 := Aside0.mk hl142_5
                clear hi142_5 hl142_5
                replace p142 := eq_true p142
                replace q142 := eq_true q142
                go_wp2_with (first | ((with_reducible refine gate_dst (N := 12) rfl ?_); refine bx_ (N := 12) #[.int .i64 0, .int .i64 0, .int .i64 0, .int .i64 0, .int .i64 0, .slice none 0 0, .int .i64 0, .int .i64 0, .int .i64 0] 40 ?_; intro gb143 hg w73 hbox hb; replace HO_5 := ak (Kd.N_below (Kd.N_elderB (PN HO_5) gb143 (Nat.le_of_eq hg.symm)) hb); replace HO_65 := ak (Kd.N_below (Kd.N_elderB (PN HO_65) gb143 (Nat.le_of_eq hg.symm)) hb); replace HL142_5 := ak (Kd.V_below (Kd.V_elderB (PV HL142_5) gb143 (Nat.le_of_eq hg.symm)) hb); replace HR142_5 := Cb HR142_5 hb; have BK143 := ak hbox; have GW143 := gy hg HB; have GE143 := gy hg HB; replace HB := bs HB hb; have NB127_143 := gm hg BK127; have NB143_127 := gn hg BK127; replace BK127 := kf BK127 hb; have NB128_143 := gm hg BK128; have NB143_128 := gn hg BK128; replace BK128 := kf BK128 hb; have NB138_143 := gm hg BK138; have NB143_138 := gn hg BK138; replace BK138 := kf BK138 hb; clear hb hbox hg; have hnb74 := NB143_127.out; have hnc74 := NB127_143.out; have hnb75 := NB143_128.out; have hnc75 := NB128_143.out; have hnb76 := NB143_138.out; have hnc76 := NB138_143.out; obtain ⟨hcz77_0, hcz77_1, hcz77_2, hcz77_3, hcz77_4, hcz77_5, hcz77_6, hcz77_7, hcz77_8, hfz77_0, hfz77_1, hfz77_2, hfz77_3, hfz77_4, hfz77_5, hfz77_6, hfz77_7, hfz77_8⟩ := bc9 BK143))
                go_roundg k3
                case measure => have := HJ2.out; have := HK2.out; have := HK3.out; omega
                case rel => exact ⟨(wrap64 (x67_3 + 1)), (x139000_3), (x139001_3), (by first | rfl | (simp; done) | (simp [*]; done)), H', ⟨by have := HJ2.out; have := HK2.out; have := HK3.out; omega⟩, ⟨NX (Kd.N_mono HO_5.out (fun k_ hk => (⟨hk, hk.2⟩ : _ ∧ k_ ≠ gb143))) (fun _ hk => ⟨hk.1.1.1, ⟨hk.1.1.2.1, ⟨hk.1.1.2.2.1, hk.1.1.2.2.2⟩⟩⟩)⟩, ⟨NX (Kd.N_mono HO_65.out (fun k_ hk => (⟨hk, hk.2⟩ : _ ∧ k_ ≠ gb143))) (fun _ hk => ⟨hk.1.1.1, ⟨hk.1.1.2.1, ⟨hk.1.1.2.2.1, hk.1.1.2.2.2⟩⟩⟩)⟩, ⟨PF BK127⟩, ⟨PF BK128⟩, ⟨PF BK138⟩, ⟨PB⟩⟩
               ·rw [if_neg c72] at H
                have c72b0 : (((rd_T40 x5_2 x67_3).f0.f2) == ((rd_T40 x5_2 0).f0.f2)) = false := beq_eq_false_iff_ne.mpr c72
                have c72b1 : (((rd_T40 x5_2 x67_3).f0.f2) != ((rd_T40 x5_2 0).f0.f2)) = true := bne_iff_ne.mpr c72
                have H' := Aside0.mk H
                clear H
                have p142 : 0 ≤ (x67_3 : Int) := of_decide_eq_true (by first | (with_reducible assumption) | assumption)
                have q142 : x67_3 < (x5_2.length : Int) := of_decide_eq_true (by first | (with_reducible assumption) | assumption)
                obtain ⟨ad142, A142_5, c142_5, e142, hx142_0, hx142_1, hx142_2, hx142_3, hx142_4, hx142_5, hx142_6, hx142_7, hx142_8, hl142_5, hi142_5⟩ := at_T40 (Kd.N_reads' HO_65.out).2.2 x67_3 p142 q142
                obtain rfl : ad139 = ad142 := (by injection e142)
                obtain ⟨ce142, hce142, hMe142, hcc142⟩ := Kd.N_get HO_65.out z40 x67_3 p142 (by first | exact q142 | exact of_decide_eq_true (by first | (with_reducible assumption) | assumption) | (have e_ := (Kd.N_reads' HO_65.out).1; omega))
                obtain ⟨ua142_5, uc142_5, rfl, ul142_5, ge142_5⟩ := k40_openF hMe142
                have hv142_5 := hcc142 5 _ rfl
                rw [add_field _ _ 5 (by omega)] at hv142_5
                replace hv142_5 := Option.some.inj (hv142_5.symm.trans hx142_5)
                injection hv142_5 with hva_ hvn_ hvc_
                rw [hva_] at ge142_5
                rw [hvc_] at ul142_5
                have HL142_5 := ak (show Kd.V (Kd.int .i64) 3 _ w.heap.size _ _ ((rd_T40 x5_2 x67_3).f2.f1) from Kd.V_mk ul142_5 ge142_5)
                clear hva_ hvn_ hvc_ ge142_5 ul142_5
                clear hcc142 hce142
                have HR142_5 := Aside0.mk hi142_5
                have HC142_5 := Aside0.mk hl142_5
                clear hi142_5 hl142_5
                replace p142 := eq_true p142
                replace q142 := eq_true q142
                go_wp2_with (first | ((with_reducible refine gate_dst (N := 12) rfl ?_); refine bx_ (N := 12) #[.int .i64 0, .int .i64 0, .int .i64 0, .int .i64 0, .int .i64 0, .slice none 0 0, .int .i64 0, .int .i64 0, .int .i64 0] 40 ?_; intro gb143 hg w78 hbox hb; replace HO_5 := ak (Kd.N_below (Kd.N_elderB (PN HO_5) gb143 (Nat.le_of_eq hg.symm)) hb); replace HO_65 := ak (Kd.N_below (Kd.N_elderB (PN HO_65) gb143 (Nat.le_of_eq hg.symm)) hb); replace HL142_5 := ak (Kd.V_below (Kd.V_elderB (PV HL142_5) gb143 (Nat.le_of_eq hg.symm)) hb); replace HR142_5 := Cb HR142_5 hb; have BK143 := ak hbox; have GW143 := gy hg HB; have GE143 := gy hg HB; replace HB := bs HB hb; have NB127_143 := gm hg BK127; have NB143_127 := gn hg BK127; replace BK127 := kf BK127 hb; have NB128_143 := gm hg BK128; have NB143_128 := gn hg BK128; replace BK128 := kf BK128 hb; have NB138_143 := gm hg BK138; have NB143_138 := gn hg BK138; replace BK138 := kf BK138 hb; clear hb hbox hg; have hnb79 := NB143_127.out; have hnc79 := NB127_143.out; have hnb80 := NB143_128.out; have hnc80 := NB128_143.out; have hnb81 := NB143_138.out; have hnc81 := NB138_143.out; obtain ⟨hcz82_0, hcz82_1, hcz82_2, hcz82_3, hcz82_4, hcz82_5, hcz82_6, hcz82_7, hcz82_8, hfz82_0, hfz82_1, hfz82_2, hfz82_3, hfz82_4, hfz82_5, hfz82_6, hfz82_7, hfz82_8⟩ := bc9 BK143))
                go_loopg [76] k3 (fun kq v76 w' => ∃ (x76_4 : Int) (x139000_4 : Int) (x139001_4 : Int), v76 = .int .i64 x76_4 ∧ Aside0 (impl_LearnForm.l2 kq x5_2 ((rd_T40 x5_2 0).f0.f2) t141 x76_4 x139000_4 x139001_4 (x5_2.length : Int) true ((rd_T40 x5_2 x67_3).f0.f0) ((rd_T40 x5_2 x67_3).f0.f1) ((rd_T40 x5_2 x67_3).f0.f2) ((rd_T40 x5_2 x67_3).f1) ((rd_T40 x5_2 x67_3).f2.f0) ((rd_T40 x5_2 x67_3).f2.f1) ((rd_T40 x5_2 x67_3).f2.f2.f0) ((rd_T40 x5_2 x67_3).f2.f2.f1) ((rd_T40 x5_2 x67_3).f2.f2.f2) = some (r1, r2, r3, r4)) ∧ Aside0 (kq ≤ k3) ∧ Aside0 (Kd.N k40 40 w' w.heap.size (fun k_ => (P0_ k_ ∨ w.heap.size ≤ k_) ∧ k_ ≠ gb127 ∧ k_ ≠ gb128 ∧ k_ ≠ gb138 ∧ k_ ≠ gb143) (.slice (some ad139) x5_2.length co60) x5_2) ∧ Aside0 (Kd.V (Kd.int .i64) 3 w' w.heap.size (fun _ => True) (.slice A142_5 ((rd_T40 x5_2 x67_3).f2.f1).length c142_5) ((rd_T40 x5_2 x67_3).f2.f1)) ∧ Aside0 (w'.heap[gb127]? = some (.cells #[.int .i64 a1_0, .int .i64 a1_1, .int .i64 a1_2] 26 (0, 0))) ∧ Aside0 (w'.heap[gb128]? = some (.cells #[.int .i64 0, .int .i64 0, .int .i64 0, .bool false] 85 (0, 0))) ∧ Aside0 (w'.heap[gb138]? = some (.cells #[.int .i64 x139000_4, .int .i64 x139001_4, .int .i64 (x5_2.length : Int), .bool true] 85 (0, 0))) ∧ Aside0 (w'.heap[gb143]? = some (.cells #[.int .i64 ((rd_T40 x5_2 x67_3).f0.f0), .int .i64 ((rd_T40 x5_2 x67_3).f0.f1), .int .i64 ((rd_T40 x5_2 x67_3).f0.f2), .int .i64 ((rd_T40 x5_2 x67_3).f1), .int .i64 ((rd_T40 x5_2 x67_3).f2.f0), (.slice A142_5 ((rd_T40 x5_2 x67_3).f2.f1).length c142_5), .int .i64 ((rd_T40 x5_2 x67_3).f2.f2.f0), .int .i64 ((rd_T40 x5_2 x67_3).f2.f2.f1), .int .i64 ((rd_T40 x5_2 x67_3).f2.f2.f2)] 40 (0, 0))) ∧ Aside0 (Below w.heap.size w w'))
                case atStart => exact ⟨(0), (x139000_3), (x139001_3), (by first | rfl | (simp; done) | (simp [*]; done)), H', ⟨Nat.le_refl _⟩, ⟨NX (Kd.N_mono HO_5.out (fun k_ hk => (⟨hk, hk.2⟩ : _ ∧ k_ ≠ gb143))) (fun _ hk => ⟨hk.1.1.1, ⟨hk.1.1.2.1, ⟨hk.1.1.2.2.1, ⟨hk.1.1.2.2.2, hk.1.2⟩⟩⟩⟩)⟩, ⟨VX HL142_5.out (fun _ _ => trivial)⟩, ⟨PF BK127⟩, ⟨PF BK128⟩, ⟨PF BK138⟩, ⟨PX BK143⟩, ⟨PB⟩⟩
                case round =>
                 clear H'
                 (try clear c1); (try clear p1); (try clear q1); (try clear hx1); (try clear qi1); (try clear c2); (try clear p2); (try clear c3); (try clear c4); (try clear c5); (try clear c6); (try clear p6); (try clear c7); (try clear c8); (try clear c10); (try clear c11); (try clear c13); (try clear p13); (try clear q13); (try clear hx13); (try clear qi13); (try clear c14); (try clear p14); (try clear q14); (try clear hx14); (try clear qi14); (try clear c15); (try clear c17); (try clear c17b0); (try clear c18); (try clear c18b0); (try clear c19); (try clear c19b0); (try clear c21); (try clear c23); (try clear c24); (try clear c26); (try clear c27); (try clear c29); (try clear c35); (try clear c36); (try clear c38); (try clear c43); (try clear c44); (try clear c46); (try clear c49); (try clear c49b0); (try clear c49b1); (try clear c49b2); (try clear c52); (try clear c53); (try clear c55); (try clear c57); (try clear c57b0); (try clear c57b1); (try clear c62); (try clear c63); (try clear p64); (try clear c69); (try clear c69b0); (try clear c70); (try clear c70b0); (try clear c71); (try clear c71b0); (try clear c72); (try clear c72b0); (try clear c72b1); (try clear c74); (try clear c75); (try clear c76); (try clear c79); (try clear c80); (try clear c81); (try clear hcz11_0); (try clear hcz11_1); (try clear hcz11_2); (try clear hcz16_0); (try clear hcz16_1); (try clear hcz16_2); (try clear hcz16_3); (try clear hcz28_0); (try clear hcz28_1); (try clear hcz28_2); (try clear hcz28_3); (try clear hcz28_4); (try clear hcz28_5); (try clear hcz28_6); (try clear hcz28_7); (try clear hcz28_8); (try clear hcz30_0); (try clear hcz30_1); (try clear hcz30_2); (try clear hcz32_0); (try clear hcz32_1); (try clear hcz32_2); (try clear hcz32_3); (try clear hcz32_4); (try clear hcz32_5); (try clear hcz32_6); (try clear hcz32_7); (try clear hcz32_8); (try clear hcz37_0); (try clear hcz37_1); (try clear hcz37_2); (try clear hcz37_3); (try clear hcz37_4); (try clear hcz37_5); (try clear hcz37_6); (try clear hcz37_7); (try clear hcz37_8); (try clear hcz39_0); (try clear hcz39_1); (try clear hcz39_2); (try clear hcz41_0); (try clear hcz41_1); (try clear hcz41_2); (try clear hcz41_3); (try clear hcz41_4); (try clear hcz41_5); (try clear hcz41_6); (try clear hcz41_7); (try clear hcz41_8); (try clear hcz45_0); (try clear hcz45_1); (try clear hcz45_2); (try clear hcz45_3); (try clear hcz45_4); (try clear hcz45_5); (try clear hcz45_6); (try clear hcz45_7); (try clear hcz45_8); (try clear hcz47_0); (try clear hcz47_1); (try clear hcz47_2); (try clear hcz54_0); (try clear hcz54_1); (try clear hcz54_2); (try clear hcz54_3); (try clear hcz56_0); (try clear hcz56_1); (try clear hcz56_2); (try clear hcz56_3); (try clear hcz64_0); (try clear hcz64_1); (try clear hcz64_2); (try clear hcz64_3); (try clear hcz68_0); (try clear hcz68_1); (try clear hcz68_2); (try clear hcz68_3); (try clear hcz77_0); (try clear hcz77_1); (try clear hcz77_2); (try clear hcz77_3); (try clear hcz77_4); (try clear hcz77_5); (try clear hcz77_6); (try clear hcz77_7); (try clear hcz77_8); (try clear hcz82_0); (try clear hcz82_1); (try clear hcz82_2); (try clear hcz82_3); (try clear hcz82_4); (try clear hcz82_5); (try clear hcz82_6); (try clear hcz82_7); (try clear hcz82_8); (try clear hfz11_0); (try clear hfz11_1); (try clear hfz11_2); (try clear hfz16_0); (try clear hfz16_1); (try clear hfz16_2); (try clear hfz16_3); (try clear hfz28_0); (try clear hfz28_1); (try clear hfz28_2); (try clear hfz28_3); (try clear hfz28_4); (try clear hfz28_5); (try clear hfz28_6); (try clear hfz28_7); (try clear hfz28_8); (try clear hfz30_0); (try clear hfz30_1); (try clear hfz30_2); (try clear hfz32_0); (try clear hfz32_1); (try clear hfz32_2); (try clear hfz32_3); (try clear hfz32_4); (try clear hfz32_5); (try clear hfz32_6); (try clear hfz32_7); (try clear hfz32_8); (try clear hfz37_0); (try clear hfz37_1); (try clear hfz37_2); (try clear hfz37_3); (try clear hfz37_4); (try clear hfz37_5); (try clear hfz37_6); (try clear hfz37_7); (try clear hfz37_8); (try clear hfz39_0); (try clear hfz39_1); (try clear hfz39_2); (try clear hfz41_0); (try clear hfz41_1); (try clear hfz41_2); (try clear hfz41_3); (try clear hfz41_4); (try clear hfz41_5); (try clear hfz41_6); (try clear hfz41_7); (try clear hfz41_8); (try clear hfz45_0); (try clear hfz45_1); (try clear hfz45_2); (try clear hfz45_3); (try clear hfz45_4); (try clear hfz45_5); (try clear hfz45_6); (try clear hfz45_7); (try clear hfz45_8); (try clear hfz47_0); (try clear hfz47_1); (try clear hfz47_2); (try clear hfz54_0); (try clear hfz54_1); (try clear hfz54_2); (try clear hfz54_3); (try clear hfz56_0); (try clear hfz56_1); (try clear hfz56_2); (try clear hfz56_3); (try clear hfz64_0); (try clear hfz64_1); (try clear hfz64_2); (try clear hfz64_3); (try clear hfz68_0); (try clear hfz68_1); (try clear hfz68_2); (try clear hfz68_3); (try clear hfz77_0); (try clear hfz77_1); (try clear hfz77_2); (try clear hfz77_3); (try clear hfz77_4); (try clear hfz77_5); (try clear hfz77_6); (try clear hfz77_7); (try clear hfz77_8); (try clear hfz82_0); (try clear hfz82_1); (try clear hfz82_2); (try clear hfz82_3); (try clear hfz82_4); (try clear hfz82_5); (try clear hfz82_6); (try clear hfz82_7); (try clear hfz82_8); (try clear hx131_0); (try clear hx131_1); (try clear hx131_2); (try clear hx131_3); (try clear hx131_4); (try clear hx131_5); (try clear hx131_6); (try clear hx131_7); (try clear hx131_8); (try clear hx139_0); (try clear hx139_1); (try clear hx139_2); (try clear hx139_3); (try clear hx139_4); (try clear hx139_5); (try clear hx139_6); (try clear hx139_7); (try clear hx139_8); (try clear hx140_0); (try clear hx140_1); (try clear hx140_2); (try clear hx140_3); (try clear hx140_4); (try clear hx140_5); (try clear hx140_6); (try clear hx140_7); (try clear hx140_8); (try clear hx142_0); (try clear hx142_1); (try clear hx142_2); (try clear hx142_3); (try clear hx142_4); (try clear hx142_5); (try clear hx142_6); (try clear hx142_7); (try clear hx142_8); (try clear p1); (try clear p13); (try clear p131); (try clear p139); (try clear p14); (try clear p140); (try clear p142); (try clear p2); (try clear p6); (try clear p64); (try clear q1); (try clear q13); (try clear q131); (try clear q139); (try clear q14); (try clear q140); (try clear q142)
                 obtain ⟨x76_4, x139000_4, x139001_4, rfl, HA, HK4, HO_5, HV142, BK127, BK128, BK138, BK143, HB⟩ := hrel
                 cases gk with
                 | zero => exact absurd HA.out (by simp [impl_LearnForm.l2])
                 | succ k4 =>
                  have H := HA.out
                  clear HA
                  simp only [impl_LearnForm.l2] at H
                  by_cases c83 : x76_4 < 1000
                  ·rw [if_pos c83] at H
                   have c83b0 : decide (x76_4 < 1000) = true := decide_eq_true c83
                   clear c83
                   replace H := Option.bind_eq_some_iff.mp H
                   obtain ⟨t144, A840, H⟩ := H
                   replace H : ((impl_Model_says.f t144 x76_4 0 false ((rd_T40 x5_2 x67_3).f0.f2)).bind fun t146 => ((impl_ValueOfResource.f k4 ((rd_T40 x5_2 x67_3).f2.f0) ((rd_T40 x5_2 x67_3).f2.f1) ((rd_T40 x5_2 x67_3).f2.f2.f0) ((rd_T40 x5_2 x67_3).f2.f2.f1) ((rd_T40 x5_2 x67_3).f2.f2.f2)).bind fun t147 => (if t146 = t147 then (impl_LearnForm.j4 k4 x5_2 t144 x76_4 (x5_2.length : Int) true) else (impl_LearnForm.l2 k4 x5_2 ((rd_T40 x5_2 0).f0.f2) t141 (wrap64 (x76_4 + 1)) x139000_4 x139001_4 (x5_2.length : Int) true ((rd_T40 x5_2 x67_3).f0.f0) ((rd_T40 x5_2 x67_3).f0.f1) ((rd_T40 x5_2 x67_3).f0.f2) ((rd_T40 x5_2 x67_3).f1) ((rd_T40 x5_2 x67_3).f2.f0) ((rd_T40 x5_2 x67_3).f2.f1) ((rd_T40 x5_2 x67_3).f2.f2.f0) ((rd_T40 x5_2 x67_3).f2.f2.f1) ((rd_T40 x5_2 x67_3).f2.f2.f2))))) = some (r1, r2, r3, r4) := H
                   have A84 := Aside0.mk A840
                   clear A840
                   replace H := Option.bind_eq_some_iff.mp H
                   obtain ⟨t146, A850, H⟩ := H
                   replace H : ((impl_ValueOfResource.f k4 ((rd_T40 x5_2 x67_3).f2.f0) ((rd_T40 x5_2 x67_3).f2.f1) ((rd_T40 x5_2 x67_3).f2.f2.f0) ((rd_T40 x5_2 x67_3).f2.f2.f1) ((rd_T40 x5_2 x67_3).f2.f2.f2)).bind fun t147 => (if t146 = t147 then (impl_LearnForm.j4 k4 x5_2 t144 x76_4 (x5_2.length : Int) true) else (impl_LearnForm.l2 k4 x5_2 ((rd_T40 x5_2 0).f0.f2) t141 (wrap64 (x76_4 + 1)) x139000_4 x139001_4 (x5_2.length : Int) true ((rd_T40 x5_2 x67_3).f0.f0) ((rd_T40 x5_2 x67_3).f0.f1) ((rd_T40 x5_2 x67_3).f0.f2) ((rd_T40 x5_2 x67_3).f1) ((rd_T40 x5_2 x67_3).f2.f0) ((rd_T40 x5_2 x67_3).f2.f1) ((rd_T40 x5_2 x67_3).f2.f2.f0) ((rd_T40 x5_2 x67_3).f2.f2.f1) ((rd_T40 x5_2 x67_3).f2.f2.f2)))) = some (r1, r2, r3, r4) := H
                   have A85 := Aside0.mk A850
                   clear A850
                   replace H := Option.bind_eq_some_iff.mp H
                   obtain ⟨t147, A860, H⟩ := H
                   replace H : (if t146 = t147 then (impl_LearnForm.j4 k4 x5_2 t144 x76_4 (x5_2.length : Int) true) else (impl_LearnForm.l2 k4 x5_2 ((rd_T40 x5_2 0).f0.f2) t141 (wrap64 (x76_4 + 1)) x139000_4 x139001_4 (x5_2.length : Int) true ((rd_T40 x5_2 x67_3).f0.f0) ((rd_T40 x5_2 x67_3).f0.f1) ((rd_T40 x5_2 x67_3).f0.f2) ((rd_T40 x5_2 x67_3).f1) ((rd_T40 x5_2 x67_3).f2.f0) ((rd_T40 x5_2 x67_3).f2.f1) ((rd_T40 x5_2 x67_3).f2.f2.f0) ((rd_T40 x5_2 x67_3).f2.f2.f1) ((rd_T40 x5_2 x67_3).f2.f2.f2))) = some (r1, r2, r3, r4) := H
                   have A86 := Aside0.mk A860
                   clear A860
                   by_cases c87 : t146 = t147
                   ·rw [if_pos c87] at H
                    have c87b0 : (t146 == t147) = true := beq_iff_eq.mpr c87
                    have c87b1 : (t146 != t147) = false := bne_eq_false_iff_eq.mpr c87
                    clear c87
                    have H' := Aside0.mk H
                    clear H
                    try go_wp2_with (first | ((with_reducible refine gate_callee (f := 87) rfl ?_); refine goesL_ (some 84) rfl rfl Try.func87 KR rfl #[.int .i64 (wrap64 (t141 - (wrap64 (x76_4 * ((rd_T40 x5_2 0).f0.f2))))), .int .i64 1000] rfl AR ?_; (with_reducible refine (impl_Mod.calls (wrap64 (t141 - (wrap64 (x76_4 * ((rd_T40 x5_2 0).f0.f2))))) 1000 t144 _ A84.out).mono ?_); rintro e w' ⟨rfl, ⟨nd, rfl⟩⟩; refine ⟨_, rfl, ?_⟩; (try (rw [drewN_self wr]; generalize hq_ : World.drewN wr _ = wr; replace HO_5 : Aside0 (Kd.N k40 40 wr w.heap.size (fun k_ => (P0_ k_ ∨ w.heap.size ≤ k_) ∧ k_ ≠ gb127 ∧ k_ ≠ gb128 ∧ k_ ≠ gb138 ∧ k_ ≠ gb143) (.slice (some ad139) x5_2.length co60) x5_2) := ⟨by rw [← hq_]; exact (PN HO_5)⟩; replace HV142 : Aside0 (Kd.V (Kd.int .i64) 3 wr w.heap.size (fun _ => True) (.slice A142_5 ((rd_T40 x5_2 x67_3).f2.f1).length c142_5) ((rd_T40 x5_2 x67_3).f2.f1)) := ⟨by rw [← hq_]; exact (PV HV142)⟩; replace BK127 : Aside0 (wr.heap[gb127]? = some (.cells #[.int .i64 a1_0, .int .i64 a1_1, .int .i64 a1_2] 26 (0, 0))) := ⟨by rw [← hq_]; exact (PK BK127)⟩; replace BK128 : Aside0 (wr.heap[gb128]? = some (.cells #[.int .i64 0, .int .i64 0, .int .i64 0, .bool false] 85 (0, 0))) := ⟨by rw [← hq_]; exact (PK BK128)⟩; replace BK138 : Aside0 (wr.heap[gb138]? = some (.cells #[.int .i64 x139000_4, .int .i64 x139001_4, .int .i64 (x5_2.length : Int), .bool true] 85 (0, 0))) := ⟨by rw [← hq_]; exact (PK BK138)⟩; replace BK143 : Aside0 (wr.heap[gb143]? = some (.cells #[.int .i64 ((rd_T40 x5_2 x67_3).f0.f0), .int .i64 ((rd_T40 x5_2 x67_3).f0.f1), .int .i64 ((rd_T40 x5_2 x67_3).f0.f2), .int .i64 ((rd_T40 x5_2 x67_3).f1), .int .i64 ((rd_T40 x5_2 x67_3).f2.f0), .slice A142_5 ((rd_T40 x5_2 x67_3).f2.f1).length c142_5, .int .i64 ((rd_T40 x5_2 x67_3).f2.f2.f0), .int .i64 ((rd_T40 x5_2 x67_3).f2.f2.f1), .int .i64 ((rd_T40 x5_2 x67_3).f2.f2.f2)] 40 (0, 0))) := ⟨by rw [← hq_]; exact (PK BK143)⟩; replace HB : Aside0 (Below w.heap.size w wr) := ⟨by rw [← hq_]; exact PB⟩; clear hq_))) | ((with_reducible refine gate_dst (N := 14) rfl ?_); refine bx_ (N := 14) #[.int .i64 0, .int .i64 0, .int .i64 0, .bool false] 85 ?_; intro gb145 hg w88 hbox hb; replace HO_5 := ak (Kd.N_below (Kd.N_elderB (PN HO_5) gb145 (Nat.le_of_eq hg.symm)) hb); replace HV142 := ak (Kd.V_below (Kd.V_elderB (PV HV142) gb145 (Nat.le_of_eq hg.symm)) hb); have BK145 := ak hbox; have GW145 := gy hg HB; have GE145 := gy hg HB; replace HB := bs HB hb; have NB127_145 := gm hg BK127; have NB145_127 := gn hg BK127; replace BK127 := kf BK127 hb; have NB128_145 := gm hg BK128; have NB145_128 := gn hg BK128; replace BK128 := kf BK128 hb; have NB138_145 := gm hg BK138; have NB145_138 := gn hg BK138; replace BK138 := kf BK138 hb; have NB143_145 := gm hg BK143; have NB145_143 := gn hg BK143; replace BK143 := kf BK143 hb; clear hb hbox hg; have hnb89 := NB145_127.out; have hnc89 := NB127_145.out; have hnb90 := NB145_128.out; have hnc90 := NB128_145.out; have hnb91 := NB145_138.out; have hnc91 := NB138_145.out; have hnb92 := NB145_143.out; have hnc92 := NB143_145.out; obtain ⟨hcz93_0, hcz93_1, hcz93_2, hcz93_3, hfz93_0, hfz93_1, hfz93_2, hfz93_3⟩ := bc4 BK145))
                    generalize hW_ : ((((w88.setCell ⟨gb145, 0, none⟩ (.int .i64 t144)).setCell ⟨gb145, 1, none⟩ (.int .i64 x76_4)).setCell ⟨gb145, 2, none⟩ (.int .i64 0)).setCell ⟨gb145, 3, none⟩ (.bool false)) = w94
                    replace HO_5 : Aside0 (Kd.N k40 40 w94 w.heap.size (fun k_ => (P0_ k_ ∨ w.heap.size ≤ k_) ∧ k_ ≠ gb127 ∧ k_ ≠ gb128 ∧ k_ ≠ gb138 ∧ k_ ≠ gb143 ∧ k_ ≠ gb145) (.slice (some ad139) x5_2.length co60) x5_2) := ⟨by rw [← hW_]; exact NX (Kd.N_mono HO_5.out (fun k_ hk => (⟨hk, hk.2⟩ : _ ∧ k_ ≠ gb145))) (fun _ hk => ⟨hk.1.1.1, ⟨hk.1.1.2.1, ⟨hk.1.1.2.2.1, ⟨hk.1.1.2.2.2.1, ⟨hk.1.1.2.2.2.2, hk.1.2⟩⟩⟩⟩⟩)⟩
                    replace HV142 : Aside0 (Kd.V (Kd.int .i64) 3 w94 w.heap.size (fun _ => True) (.slice A142_5 ((rd_T40 x5_2 x67_3).f2.f1).length c142_5) ((rd_T40 x5_2 x67_3).f2.f1)) := ⟨by rw [← hW_]; exact VX HV142.out (fun _ _ => trivial)⟩
                    replace BK127 := BE hW_ BK127
                    replace BK128 := BE hW_ BK128
                    replace BK138 := BE hW_ BK138
                    replace BK143 := BE hW_ BK143
                    replace BK145 : Aside0 (w94.heap[gb145]? = some (.cells #[.int .i64 t144, .int .i64 x76_4, .int .i64 0, .bool false] 85 (0, 0))) := BP hW_ BK145
                    replace HB := BL hW_ HB
                    (try clear hW_)
                    replace HO_5 := ak (Kd.N_drew HO_5.out)
                    replace HV142 := ak (Kd.V_drew HV142.out)
                    replace BK127 := ak (blk_drew BK127.out)
                    replace BK128 := ak (blk_drew BK128.out)
                    replace BK138 := ak (blk_drew BK138.out)
                    replace BK143 := ak (blk_drew BK143.out)
                    replace BK145 := ak (blk_drew BK145.out)
                    replace HB := ak (below_drew1 HB.out)
                    refine start_ (n := 9) (S := fun w' => w'.cell? ⟨gb145, 0, none⟩ = some (.int .i64 t144) ∧ w'.cell? ⟨gb145, 1, none⟩ = some (.int .i64 x76_4) ∧ w'.cell? ⟨gb145, 2, none⟩ = some (.int .i64 0) ∧ w'.cell? ⟨gb145, 3, none⟩ = some (.bool false) ∧ w'.cell? ⟨gb143, 0, none⟩ = some (.int .i64 ((rd_T40 x5_2 x67_3).f0.f0)) ∧ w'.cell? ⟨gb143, 1, none⟩ = some (.int .i64 ((rd_T40 x5_2 x67_3).f0.f1)) ∧ w'.cell? ⟨gb143, 2, none⟩ = some (.int .i64 ((rd_T40 x5_2 x67_3).f0.f2)) ∧ w'.cell? ⟨gb143, 3, none⟩ = some (.int .i64 ((rd_T40 x5_2 x67_3).f1)) ∧ w'.cell? ⟨gb143, 4, none⟩ = some (.int .i64 ((rd_T40 x5_2 x67_3).f2.f0)) ∧ w'.cell? ⟨gb143, 5, none⟩ = some (.slice A142_5 ((rd_T40 x5_2 x67_3).f2.f1).length c142_5) ∧ w'.cell? ⟨gb143, 6, none⟩ = some (.int .i64 ((rd_T40 x5_2 x67_3).f2.f2.f0)) ∧ w'.cell? ⟨gb143, 7, none⟩ = some (.int .i64 ((rd_T40 x5_2 x67_3).f2.f2.f1)) ∧ w'.cell? ⟨gb143, 8, none⟩ = some (.int .i64 ((rd_T40 x5_2 x67_3).f2.f2.f2))) (ds := []) b5_9 KR rfl rfl ⟨(blk_cell BK145.out 0).trans rfl, (blk_cell BK145.out 1).trans rfl, (blk_cell BK145.out 2).trans rfl, (blk_cell BK145.out 3).trans rfl, (blk_cell BK143.out 0).trans rfl, (blk_cell BK143.out 1).trans rfl, (blk_cell BK143.out 2).trans rfl, (blk_cell BK143.out 3).trans rfl, (blk_cell BK143.out 4).trans rfl, (blk_cell BK143.out 5).trans rfl, (blk_cell BK143.out 6).trans rfl, (blk_cell BK143.out 7).trans rfl, (blk_cell BK143.out 8).trans rfl⟩ (fun hHeld => ?_); refine with_tabW impl_LearnForm.tab23 impl_LearnForm.bits23 (fun HT_ HW_ => ?_)
                    generalize w94.drew = w95 at HO_5 HV142 BK127 BK128 BK138 BK143 BK145 HB hHeld ⊢
                    refine pu_ (i := 1) (N := some 88) b5_8 HT_ ?_
                    refine pu_ (i := 2) (N := some 89) b5_7 HT_ ?_
                    refine pu_ (i := 5) (N := some 92) b5_6 HT_ ?_
                    refine tk_ (i := 0) (N := some 87) b5_5 rfl rfl HT_ HW_ hHeld ?_
                    refine take_ (i := 3) (N := some 90) (v := ?_) (a' := ?_) b5_4 rfl rfl (take_ofW HT_.out HW_.out KR) (fun _ _ _ h => h) (Or.inl ⟨by rfl, ?_⟩) hHeld ?_ ?_
                    rotate_left
                    ·rintro w' ⟨s0, s1, s2, s3, s4, s5, s6, s7, s8, s9, s10, s11, s12⟩
                     go_simp
                     with_reducible rfl
                    rotate_left
                    ·simp only [Act.put, List.setIfInBounds_toArray, List.set_cons_zero, List.set_cons_succ, i64_w, i32_w]
                     rfl
                    refine tk_ (i := 6) (N := some 93) b5_3 rfl rfl HT_ HW_ hHeld ?_
                    refine one_ (i := 4) (N := some 91) b5_2 rfl rfl (one_of HT_.out KR) (by decide) (fun K hK => ?_)
                    refine goes_ Try.func116 KR rfl #[.agg #[.int .i64 t144, .int .i64 x76_4, .int .i64 0, .bool false], .int .i64 ((rd_T40 x5_2 x67_3).f0.f2)] (by rfl) rfl rfl AR ?_
                    with_reducible refine (impl_Model_says.calls t144 x76_4 0 false ((rd_T40 x5_2 x67_3).f0.f2) t146 _ A85.out).mono ?_
                    rintro e w96 ⟨rfl, hb⟩
                    refine ⟨_, rfl, ?_⟩
                    replace HO_5 := Nb HO_5 hb
                    replace HV142 := Vb HV142 hb
                    replace BK127 := kf BK127 hb
                    replace BK128 := kf BK128 hb
                    replace BK138 := kf BK138 hb
                    replace BK143 := kf BK143 hb
                    replace BK145 := kf BK145 hb
                    replace HB := bs HB hb
                    (try clear hb)
                    (try clear hb2)
                    (try clear hk)
                    (try clear hi)
                    refine hK.out _ _ ⟨(blk_cell BK145.out 0).trans rfl, (blk_cell BK145.out 1).trans rfl, (blk_cell BK145.out 2).trans rfl, (blk_cell BK145.out 3).trans rfl, (blk_cell BK143.out 0).trans rfl, (blk_cell BK143.out 1).trans rfl, (blk_cell BK143.out 2).trans rfl, (blk_cell BK143.out 3).trans rfl, (blk_cell BK143.out 4).trans rfl, (blk_cell BK143.out 5).trans rfl, (blk_cell BK143.out 6).trans rfl, (blk_cell BK143.out 7).trans rfl, (blk_cell BK143.out 8).trans rfl⟩ (fun hHeld => ?_)
                    clear hK K
                    refine norm_ (a' := ?_) ?_ ?_
                    rotate_left
                    ·show Act.put _ (some 91) _ = _
                     simp only [Act.put, List.setIfInBounds_toArray, List.set_cons_zero, List.set_cons_succ, i64_w, i32_w]
                     rfl
                    refine one_ (i := 7) (N := some 94) b5_1 rfl rfl (one_of HT_.out KR) (by decide) (fun K hK => ?_)
                    refine goes_ Try.func35 KR rfl #[.agg #[.int .i64 ((rd_T40 x5_2 x67_3).f2.f0), .slice A142_5 ((rd_T40 x5_2 x67_3).f2.f1).length c142_5, .int .i64 ((rd_T40 x5_2 x67_3).f2.f2.f0), .int .i64 ((rd_T40 x5_2 x67_3).f2.f2.f1), .int .i64 ((rd_T40 x5_2 x67_3).f2.f2.f2)]] (by rfl) rfl rfl AR ?_
                    with_reducible refine (impl_ValueOfResource.calls k4 ((rd_T40 x5_2 x67_3).f2.f0) _ _ ((rd_T40 x5_2 x67_3).f2.f1) ((rd_T40 x5_2 x67_3).f2.f2.f0) ((rd_T40 x5_2 x67_3).f2.f2.f1) ((rd_T40 x5_2 x67_3).f2.f2.f2) t147 _ ?side1 ?side2 A86.out).mono ?_
                    (case side1 => exact CR ((Kd.V_reads' HV142.out).2.2))
                    (case side2 => exact HC142_5.out)
                    rintro e w97 ⟨rfl, hb⟩
                    refine ⟨_, rfl, ?_⟩
                    replace HO_5 := Nb HO_5 hb
                    replace HV142 := Vb HV142 hb
                    replace BK127 := kf BK127 hb
                    replace BK128 := kf BK128 hb
                    replace BK138 := kf BK138 hb
                    replace BK143 := kf BK143 hb
                    replace BK145 := kf BK145 hb
                    replace HB := bs HB hb
                    (try clear hb)
                    (try clear hb2)
                    (try clear hk)
                    (try clear hi)
                    refine hK.out _ _ ⟨(blk_cell BK145.out 0).trans rfl, (blk_cell BK145.out 1).trans rfl, (blk_cell BK145.out 2).trans rfl, (blk_cell BK145.out 3).trans rfl, (blk_cell BK143.out 0).trans rfl, (blk_cell BK143.out 1).trans rfl, (blk_cell BK143.out 2).trans rfl, (blk_cell BK143.out 3).trans rfl, (blk_cell BK143.out 4).trans rfl, (blk_cell BK143.out 5).trans rfl, (blk_cell BK143.out 6).trans rfl, (blk_cell BK143.out 7).trans rfl, (blk_cell BK143.out 8).trans rfl⟩ (fun hHeld => ?_)
                    clear hK K
                    refine norm_ (a' := ?_) ?_ ?_
                    rotate_left
                    ·show Act.put _ (some 94) _ = _
                     simp only [Act.put, List.setIfInBounds_toArray, List.set_cons_zero, List.set_cons_succ, i64_w, i32_w]
                     rfl
                    refine pu_ (i := 8) (N := some 95) b5_0 HT_ ?_
                    refine done_ (done_of HT_.out KR) ?_
                    obtain ⟨hcz98_0, hcz98_1, hcz98_2, hcz98_3, hfz98_0, hfz98_1, hfz98_2, hfz98_3⟩ := bc4 BK145
                    have hnb99 := NB138_127.out
                    have hnc99 := NB127_138.out
                    have hnb100 := NB138_128.out
                    have hnc100 := NB128_138.out
                    have hnb101 := NB138_143.out
                    have hnc101 := NB143_138.out
                    obtain ⟨hcz102_0, hcz102_1, hcz102_2, hcz102_3, hfz102_0, hfz102_1, hfz102_2, hfz102_3⟩ := bc4 BK138
                    try go_wp2
                    go_meet
                    case rel => exact ⟨_, (t144), (x76_4), H', ⟨by have := HJ2.out; have := HK2.out; have := HK3.out; have := HK4.out; first | omega | exact Nat.le_refl _⟩, ⟨NX (Kd.N_mono HO_5.out (fun k_ hk => (⟨hk, hk.2.2.2.1⟩ : _ ∧ k_ ≠ gb138))) (fun _ hk => ⟨hk.1.1, ⟨hk.1.2.1, ⟨hk.1.2.2.1, hk.1.2.2.2.1⟩⟩⟩)⟩, ⟨PF BK127⟩, ⟨PF BK128⟩, ⟨PX BK138⟩, ⟨PB⟩⟩
                   ·rw [if_neg c87] at H
                    have c87b0 : (t146 == t147) = false := beq_eq_false_iff_ne.mpr c87
                    have c87b1 : (t146 != t147) = true := bne_iff_ne.mpr c87
                    have H' := Aside0.mk H
                    clear H
                    try go_wp2_with (first | ((with_reducible refine gate_callee (f := 87) rfl ?_); refine goesL_ (some 84) rfl rfl Try.func87 KR rfl #[.int .i64 (wrap64 (t141 - (wrap64 (x76_4 * ((rd_T40 x5_2 0).f0.f2))))), .int .i64 1000] rfl AR ?_; (with_reducible refine (impl_Mod.calls (wrap64 (t141 - (wrap64 (x76_4 * ((rd_T40 x5_2 0).f0.f2))))) 1000 t144 _ A84.out).mono ?_); rintro e w' ⟨rfl, ⟨nd, rfl⟩⟩; refine ⟨_, rfl, ?_⟩; (try (rw [drewN_self wr]; generalize hq_ : World.drewN wr _ = wr; replace HO_5 : Aside0 (Kd.N k40 40 wr w.heap.size (fun k_ => (P0_ k_ ∨ w.heap.size ≤ k_) ∧ k_ ≠ gb127 ∧ k_ ≠ gb128 ∧ k_ ≠ gb138 ∧ k_ ≠ gb143) (.slice (some ad139) x5_2.length co60) x5_2) := ⟨by rw [← hq_]; exact (PN HO_5)⟩; replace HV142 : Aside0 (Kd.V (Kd.int .i64) 3 wr w.heap.size (fun _ => True) (.slice A142_5 ((rd_T40 x5_2 x67_3).f2.f1).length c142_5) ((rd_T40 x5_2 x67_3).f2.f1)) := ⟨by rw [← hq_]; exact (PV HV142)⟩; replace BK127 : Aside0 (wr.heap[gb127]? = some (.cells #[.int .i64 a1_0, .int .i64 a1_1, .int .i64 a1_2] 26 (0, 0))) := ⟨by rw [← hq_]; exact (PK BK127)⟩; replace BK128 : Aside0 (wr.heap[gb128]? = some (.cells #[.int .i64 0, .int .i64 0, .int .i64 0, .bool false] 85 (0, 0))) := ⟨by rw [← hq_]; exact (PK BK128)⟩; replace BK138 : Aside0 (wr.heap[gb138]? = some (.cells #[.int .i64 x139000_4, .int .i64 x139001_4, .int .i64 (x5_2.length : Int), .bool true] 85 (0, 0))) := ⟨by rw [← hq_]; exact (PK BK138)⟩; replace BK143 : Aside0 (wr.heap[gb143]? = some (.cells #[.int .i64 ((rd_T40 x5_2 x67_3).f0.f0), .int .i64 ((rd_T40 x5_2 x67_3).f0.f1), .int .i64 ((rd_T40 x5_2 x67_3).f0.f2), .int .i64 ((rd_T40 x5_2 x67_3).f1), .int .i64 ((rd_T40 x5_2 x67_3).f2.f0), .slice A142_5 ((rd_T40 x5_2 x67_3).f2.f1).length c142_5, .int .i64 ((rd_T40 x5_2 x67_3).f2.f2.f0), .int .i64 ((rd_T40 x5_2 x67_3).f2.f2.f1), .int .i64 ((rd_T40 x5_2 x67_3).f2.f2.f2)] 40 (0, 0))) := ⟨by rw [← hq_]; exact (PK BK143)⟩; replace HB : Aside0 (Below w.heap.size w wr) := ⟨by rw [← hq_]; exact PB⟩; clear hq_))) | ((with_reducible refine gate_dst (N := 14) rfl ?_); refine bx_ (N := 14) #[.int .i64 0, .int .i64 0, .int .i64 0, .bool false] 85 ?_; intro gb145 hg w103 hbox hb; replace HO_5 := ak (Kd.N_below (Kd.N_elderB (PN HO_5) gb145 (Nat.le_of_eq hg.symm)) hb); replace HV142 := ak (Kd.V_below (Kd.V_elderB (PV HV142) gb145 (Nat.le_of_eq hg.symm)) hb); have BK145 := ak hbox; have GW145 := gy hg HB; have GE145 := gy hg HB; replace HB := bs HB hb; have NB127_145 := gm hg BK127; have NB145_127 := gn hg BK127; replace BK127 := kf BK127 hb; have NB128_145 := gm hg BK128; have NB145_128 := gn hg BK128; replace BK128 := kf BK128 hb; have NB138_145 := gm hg BK138; have NB145_138 := gn hg BK138; replace BK138 := kf BK138 hb; have NB143_145 := gm hg BK143; have NB145_143 := gn hg BK143; replace BK143 := kf BK143 hb; clear hb hbox hg; have hnb104 := NB145_127.out; have hnc104 := NB127_145.out; have hnb105 := NB145_128.out; have hnc105 := NB128_145.out; have hnb106 := NB145_138.out; have hnc106 := NB138_145.out; have hnb107 := NB145_143.out; have hnc107 := NB143_145.out; obtain ⟨hcz108_0, hcz108_1, hcz108_2, hcz108_3, hfz108_0, hfz108_1, hfz108_2, hfz108_3⟩ := bc4 BK145))
                    generalize hW_ : ((((w103.setCell ⟨gb145, 0, none⟩ (.int .i64 t144)).setCell ⟨gb145, 1, none⟩ (.int .i64 x76_4)).setCell ⟨gb145, 2, none⟩ (.int .i64 0)).setCell ⟨gb145, 3, none⟩ (.bool false)) = w109
                    replace HO_5 : Aside0 (Kd.N k40 40 w109 w.heap.size (fun k_ => (P0_ k_ ∨ w.heap.size ≤ k_) ∧ k_ ≠ gb127 ∧ k_ ≠ gb128 ∧ k_ ≠ gb138 ∧ k_ ≠ gb143 ∧ k_ ≠ gb145) (.slice (some ad139) x5_2.length co60) x5_2) := ⟨by rw [← hW_]; exact NX (Kd.N_mono HO_5.out (fun k_ hk => (⟨hk, hk.2⟩ : _ ∧ k_ ≠ gb145))) (fun _ hk => ⟨hk.1.1.1, ⟨hk.1.1.2.1, ⟨hk.1.1.2.2.1, ⟨hk.1.1.2.2.2.1, ⟨hk.1.1.2.2.2.2, hk.1.2⟩⟩⟩⟩⟩)⟩
                    replace HV142 : Aside0 (Kd.V (Kd.int .i64) 3 w109 w.heap.size (fun _ => True) (.slice A142_5 ((rd_T40 x5_2 x67_3).f2.f1).length c142_5) ((rd_T40 x5_2 x67_3).f2.f1)) := ⟨by rw [← hW_]; exact VX HV142.out (fun _ _ => trivial)⟩
                    replace BK127 := BE hW_ BK127
                    replace BK128 := BE hW_ BK128
                    replace BK138 := BE hW_ BK138
                    replace BK143 := BE hW_ BK143
                    replace BK145 : Aside0 (w109.heap[gb145]? = some (.cells #[.int .i64 t144, .int .i64 x76_4, .int .i64 0, .bool false] 85 (0, 0))) := BP hW_ BK145
                    replace HB := BL hW_ HB
                    (try clear hW_)
                    replace HO_5 := ak (Kd.N_drew HO_5.out)
                    replace HV142 := ak (Kd.V_drew HV142.out)
                    replace BK127 := ak (blk_drew BK127.out)
                    replace BK128 := ak (blk_drew BK128.out)
                    replace BK138 := ak (blk_drew BK138.out)
                    replace BK143 := ak (blk_drew BK143.out)
                    replace BK145 := ak (blk_drew BK145.out)
                    replace HB := ak (below_drew1 HB.out)
                    refine start_ (n := 9) (S := fun w' => w'.cell? ⟨gb145, 0, none⟩ = some (.int .i64 t144) ∧ w'.cell? ⟨gb145, 1, none⟩ = some (.int .i64 x76_4) ∧ w'.cell? ⟨gb145, 2, none⟩ = some (.int .i64 0) ∧ w'.cell? ⟨gb145, 3, none⟩ = some (.bool false) ∧ w'.cell? ⟨gb143, 0, none⟩ = some (.int .i64 ((rd_T40 x5_2 x67_3).f0.f0)) ∧ w'.cell? ⟨gb143, 1, none⟩ = some (.int .i64 ((rd_T40 x5_2 x67_3).f0.f1)) ∧ w'.cell? ⟨gb143, 2, none⟩ = some (.int .i64 ((rd_T40 x5_2 x67_3).f0.f2)) ∧ w'.cell? ⟨gb143, 3, none⟩ = some (.int .i64 ((rd_T40 x5_2 x67_3).f1)) ∧ w'.cell? ⟨gb143, 4, none⟩ = some (.int .i64 ((rd_T40 x5_2 x67_3).f2.f0)) ∧ w'.cell? ⟨gb143, 5, none⟩ = some (.slice A142_5 ((rd_T40 x5_2 x67_3).f2.f1).length c142_5) ∧ w'.cell? ⟨gb143, 6, none⟩ = some (.int .i64 ((rd_T40 x5_2 x67_3).f2.f2.f0)) ∧ w'.cell? ⟨gb143, 7, none⟩ = some (.int .i64 ((rd_T40 x5_2 x67_3).f2.f2.f1)) ∧ w'.cell? ⟨gb143, 8, none⟩ = some (.int .i64 ((rd_T40 x5_2 x67_3).f2.f2.f2))) (ds := []) b5_9 KR rfl rfl ⟨(blk_cell BK145.out 0).trans rfl, (blk_cell BK145.out 1).trans rfl, (blk_cell BK145.out 2).trans rfl, (blk_cell BK145.out 3).trans rfl, (blk_cell BK143.out 0).trans rfl, (blk_cell BK143.out 1).trans rfl, (blk_cell BK143.out 2).trans rfl, (blk_cell BK143.out 3).trans rfl, (blk_cell BK143.out 4).trans rfl, (blk_cell BK143.out 5).trans rfl, (blk_cell BK143.out 6).trans rfl, (blk_cell BK143.out 7).trans rfl, (blk_cell BK143.out 8).trans rfl⟩ (fun hHeld => ?_); refine with_tabW impl_LearnForm.tab23 impl_LearnForm.bits23 (fun HT_ HW_ => ?_)
                    generalize w109.drew = w110 at HO_5 HV142 BK127 BK128 BK138 BK143 BK145 HB hHeld ⊢
                    refine pu_ (i := 1) (N := some 88) b5_8 HT_ ?_
                    refine pu_ (i := 2) (N := some 89) b5_7 HT_ ?_
                    refine pu_ (i := 5) (N := some 92) b5_6 HT_ ?_
                    refine tk_ (i := 0) (N := some 87) b5_5 rfl rfl HT_ HW_ hHeld ?_
                    refine take_ (i := 3) (N := some 90) (v := ?_) (a' := ?_) b5_4 rfl rfl (take_ofW HT_.out HW_.out KR) (fun _ _ _ h => h) (Or.inl ⟨by rfl, ?_⟩) hHeld ?_ ?_
                    rotate_left
                    ·rintro w' ⟨s0, s1, s2, s3, s4, s5, s6, s7, s8, s9, s10, s11, s12⟩
                     go_simp
                     with_reducible rfl
                    rotate_left
                    ·simp only [Act.put, List.setIfInBounds_toArray, List.set_cons_zero, List.set_cons_succ, i64_w, i32_w]
                     rfl
                    refine tk_ (i := 6) (N := some 93) b5_3 rfl rfl HT_ HW_ hHeld ?_
                    refine one_ (i := 4) (N := some 91) b5_2 rfl rfl (one_of HT_.out KR) (by decide) (fun K hK => ?_)
                    refine goes_ Try.func116 KR rfl #[.agg #[.int .i64 t144, .int .i64 x76_4, .int .i64 0, .bool false], .int .i64 ((rd_T40 x5_2 x67_3).f0.f2)] (by rfl) rfl rfl AR ?_
                    with_reducible refine (impl_Model_says.calls t144 x76_4 0 false ((rd_T40 x5_2 x67_3).f0.f2) t146 _ A85.out).mono ?_
                    rintro e w111 ⟨rfl, hb⟩
                    refine ⟨_, rfl, ?_⟩
                    replace HO_5 := Nb HO_5 hb
                    replace HV142 := Vb HV142 hb
                    replace BK127 := kf BK127 hb
                    replace BK128 := kf BK128 hb
                    replace BK138 := kf BK138 hb
                    replace BK143 := kf BK143 hb
                    replace BK145 := kf BK145 hb
                    replace HB := bs HB hb
                    (try clear hb)
                    (try clear hb2)
                    (try clear hk)
                    (try clear hi)
                    refine hK.out _ _ ⟨(blk_cell BK145.out 0).trans rfl, (blk_cell BK145.out 1).trans rfl, (blk_cell BK145.out 2).trans rfl, (blk_cell BK145.out 3).trans rfl, (blk_cell BK143.out 0).trans rfl, (blk_cell BK143.out 1).trans rfl, (blk_cell BK143.out 2).trans rfl, (blk_cell BK143.out 3).trans rfl, (blk_cell BK143.out 4).trans rfl, (blk_cell BK143.out 5).trans rfl, (blk_cell BK143.out 6).trans rfl, (blk_cell BK143.out 7).trans rfl, (blk_cell BK143.out 8).trans rfl⟩ (fun hHeld => ?_)
                    clear hK K
                    refine norm_ (a' := ?_) ?_ ?_
                    rotate_left
                    ·show Act.put _ (some 91) _ = _
                     simp only [Act.put, List.setIfInBounds_toArray, List.set_cons_zero, List.set_cons_succ, i64_w, i32_w]
                     rfl
                    refine one_ (i := 7) (N := some 94) b5_1 rfl rfl (one_of HT_.out KR) (by decide) (fun K hK => ?_)
                    refine goes_ Try.func35 KR rfl #[.agg #[.int .i64 ((rd_T40 x5_2 x67_3).f2.f0), .slice A142_5 ((rd_T40 x5_2 x67_3).f2.f1).length c142_5, .int .i64 ((rd_T40 x5_2 x67_3).f2.f2.f0), .int .i64 ((rd_T40 x5_2 x67_3).f2.f2.f1), .int .i64 ((rd_T40 x5_2 x67_3).f2.f2.f2)]] (by rfl) rfl rfl AR ?_
                    with_reducible refine (impl_ValueOfResource.calls k4 ((rd_T40 x5_2 x67_3).f2.f0) _ _ ((rd_T40 x5_2 x67_3).f2.f1) ((rd_T40 x5_2 x67_3).f2.f2.f0) ((rd_T40 x5_2 x67_3).f2.f2.f1) ((rd_T40 x5_2 x67_3).f2.f2.f2) t147 _ ?side1 ?side2 A86.out).mono ?_
                    (case side1 => exact CR ((Kd.V_reads' HV142.out).2.2))
                    (case side2 => exact HC142_5.out)
                    rintro e w112 ⟨rfl, hb⟩
                    refine ⟨_, rfl, ?_⟩
                    replace HO_5 := Nb HO_5 hb
                    replace HV142 := Vb HV142 hb
                    replace BK127 := kf BK127 hb
                    replace BK128 := kf BK128 hb
                    replace BK138 := kf BK138 hb
                    replace BK143 := kf BK143 hb
                    replace BK145 := kf BK145 hb
                    replace HB := bs HB hb
                    (try clear hb)
                    (try clear hb2)
                    (try clear hk)
                    (try clear hi)
                    refine hK.out _ _ ⟨(blk_cell BK145.out 0).trans rfl, (blk_cell BK145.out 1).trans rfl, (blk_cell BK145.out 2).trans rfl, (blk_cell BK145.out 3).trans rfl, (blk_cell BK143.out 0).trans rfl, (blk_cell BK143.out 1).trans rfl, (blk_cell BK143.out 2).trans rfl, (blk_cell BK143.out 3).trans rfl, (blk_cell BK143.out 4).trans rfl, (blk_cell BK143.out 5).trans rfl, (blk_cell BK143.out 6).trans rfl, (blk_cell BK143.out 7).trans rfl, (blk_cell BK143.out 8).trans rfl⟩ (fun hHeld => ?_)
                    clear hK K
                    refine norm_ (a' := ?_) ?_ ?_
                    rotate_left
                    ·show Act.put _ (some 94) _ = _
                     simp only [Act.put, List.setIfInBounds_toArray, List.set_cons_zero, List.set_cons_succ, i64_w, i32_w]
                     rfl
                    refine pu_ (i := 8) (N := some 95) b5_0 HT_ ?_
                    refine done_ (done_of HT_.out KR) ?_
                    try go_wp2
                    go_roundg k4
                    case measure => have := HJ2.out; have := HK2.out; have := HK3.out; have := HK4.out; omega
                    case rel => exact ⟨(wrap64 (x76_4 + 1)), (x139000_4), (x139001_4), (by first | rfl | (simp; done) | (simp [*]; done)), H', ⟨by have := HJ2.out; have := HK2.out; have := HK3.out; have := HK4.out; omega⟩, ⟨NX HO_5.out (fun _ hk => ⟨hk.1, ⟨hk.2.1, ⟨hk.2.2.1, ⟨hk.2.2.2.1, hk.2.2.2.2.1⟩⟩⟩⟩)⟩, ⟨VX HV142.out (fun _ _ => trivial)⟩, ⟨PK BK127⟩, ⟨PK BK128⟩, ⟨PK BK138⟩, ⟨PK BK143⟩, ⟨PB⟩⟩
                  ·rw [if_neg c83] at H
                   have c83b0 : decide (x76_4 < 1000) = false := decide_eq_false c83
                   clear c83
                   have H' := Aside0.mk H
                   clear H
                   go_wp2
                   go_meet
                   case rel => exact ⟨_, (x139000_4), (x139001_4), H', ⟨by have := HJ2.out; have := HK2.out; have := HK3.out; have := HK4.out; first | omega | exact Nat.le_refl _⟩, ⟨NX HO_5.out (fun _ hk => ⟨hk.1, ⟨hk.2.1, ⟨hk.2.2.1, hk.2.2.2.1⟩⟩⟩)⟩, ⟨PK BK127⟩, ⟨PK BK128⟩, ⟨PK BK138⟩, ⟨PB⟩⟩
              ·rw [if_neg c71] at H
               exact absurd H (by simp)
             ·rw [if_neg c70] at H
              exact absurd H (by simp)
            ·rw [if_neg c69] at H
             have c69b0 : decide (x67_3 < (x5_2.length : Int)) = false := decide_eq_false c69
             clear c69
             (first | rw [c69b0] | (simp only [i64_w, i32_w]; rw [c69b0]) | skip)
             have H' := Aside0.mk H
             clear H
             go_wp2
             go_meet
             case rel => exact ⟨_, (x139000_3), (x139001_3), H', ⟨by have := HJ2.out; have := HK2.out; have := HK3.out; first | omega | exact Nat.le_refl _⟩, ⟨PN HO_5⟩, ⟨PK BK127⟩, ⟨PK BK128⟩, ⟨PK BK138⟩, ⟨PB⟩⟩
         case rest =>
          clear HC59
          (try clear c1); (try clear p1); (try clear q1); (try clear hx1); (try clear p2); (try clear c3); (try clear c6); (try clear p6); (try clear c7); (try clear c8); (try clear c9); (try clear c10); (try clear c11); (try clear p13); (try clear q13); (try clear hx13); (try clear c14); (try clear p14); (try clear q14); (try clear hx14); (try clear c35); (try clear p64); (try clear c69); (try clear c69b0); (try clear c70); (try clear c71); (try clear c83); (try clear c83b0); (try clear c87); (try clear c87b0); (try clear c87b1); (try clear c89); (try clear c90); (try clear c91); (try clear c92); (try clear c99); (try clear c100); (try clear c101); (try clear c104); (try clear c105); (try clear c106); (try clear c107); (try clear hcz102_0); (try clear hcz102_1); (try clear hcz102_2); (try clear hcz102_3); (try clear hcz108_0); (try clear hcz108_1); (try clear hcz108_2); (try clear hcz108_3); (try clear hcz93_0); (try clear hcz93_1); (try clear hcz93_2); (try clear hcz93_3); (try clear hcz98_0); (try clear hcz98_1); (try clear hcz98_2); (try clear hcz98_3); (try clear hfz102_0); (try clear hfz102_1); (try clear hfz102_2); (try clear hfz102_3); (try clear hfz108_0); (try clear hfz108_1); (try clear hfz108_2); (try clear hfz108_3); (try clear hfz16_1); (try clear hfz16_2); (try clear hfz16_3); (try clear hfz28_0); (try clear hfz28_1); (try clear hfz28_2); (try clear hfz28_3); (try clear hfz28_4); (try clear hfz28_5); (try clear hfz28_6); (try clear hfz28_7); (try clear hfz28_8); (try clear hfz30_0); (try clear hfz30_1); (try clear hfz30_2); (try clear hfz32_0); (try clear hfz32_1); (try clear hfz32_2); (try clear hfz32_3); (try clear hfz32_4); (try clear hfz32_5); (try clear hfz32_6); (try clear hfz32_7); (try clear hfz32_8); (try clear hfz37_0); (try clear hfz37_1); (try clear hfz37_2); (try clear hfz37_3); (try clear hfz37_4); (try clear hfz37_5); (try clear hfz37_6); (try clear hfz37_7); (try clear hfz37_8); (try clear hfz39_0); (try clear hfz39_1); (try clear hfz39_2); (try clear hfz41_0); (try clear hfz41_1); (try clear hfz41_2); (try clear hfz41_3); (try clear hfz41_4); (try clear hfz41_5); (try clear hfz41_6); (try clear hfz41_7); (try clear hfz41_8); (try clear hfz45_0); (try clear hfz45_1); (try clear hfz45_2); (try clear hfz45_3); (try clear hfz45_4); (try clear hfz45_5); (try clear hfz45_6); (try clear hfz45_7); (try clear hfz45_8); (try clear hfz47_0); (try clear hfz47_1); (try clear hfz47_2); (try clear hfz54_0); (try clear hfz54_1); (try clear hfz54_2); (try clear hfz54_3); (try clear hfz56_0); (try clear hfz56_1); (try clear hfz56_2); (try clear hfz56_3); (try clear hfz64_0); (try clear hfz64_1); (try clear hfz64_2); (try clear hfz64_3); (try clear hfz68_0); (try clear hfz68_1); (try clear hfz68_2); (try clear hfz68_3); (try clear hfz77_0); (try clear hfz77_1); (try clear hfz77_2); (try clear hfz77_3); (try clear hfz77_4); (try clear hfz77_5); (try clear hfz77_6); (try clear hfz77_7); (try clear hfz77_8); (try clear hfz82_0); (try clear hfz82_1); (try clear hfz82_2); (try clear hfz82_3); (try clear hfz82_4); (try clear hfz82_5); (try clear hfz82_6); (try clear hfz82_7); (try clear hfz82_8); (try clear hfz93_0); (try clear hfz93_1); (try clear hfz93_2); (try clear hfz93_3); (try clear hfz98_0); (try clear hfz98_1); (try clear hfz98_2); (try clear hfz98_3); (try clear hx131_0); (try clear hx131_1); (try clear hx131_2); (try clear hx131_3); (try clear hx131_4); (try clear hx131_5); (try clear hx131_6); (try clear hx131_7); (try clear hx131_8); (try clear hx139_0); (try clear hx139_1); (try clear hx139_2); (try clear hx139_3); (try clear hx139_4); (try clear hx139_5); (try clear hx139_6); (try clear hx139_7); (try clear hx139_8); (try clear hx140_0); (try clear hx140_1); (try clear hx140_2); (try clear hx140_3); (try clear hx140_4); (try clear hx140_5); (try clear hx140_6); (try clear hx140_7); (try clear hx140_8); (try clear hx142_0); (try clear hx142_1); (try clear hx142_2); (try clear hx142_3); (try clear hx142_4); (try clear hx142_5); (try clear hx142_6); (try clear hx142_7); (try clear hx142_8); (try clear p1); (try clear p13); (try clear p131); (try clear p139); (try clear p14); (try clear p140); (try clear p142); (try clear p2); (try clear p6); (try clear p64); (try clear q1); (try clear q13); (try clear q131); (try clear q139); (try clear q14); (try clear q140); (try clear q142)
          obtain ⟨kq, x139000_58, x139001_58, HA, HJ58, HO_5, BK127, BK128, BK138, HB⟩ := hcut
          cases kq with
          | zero => exact absurd HA.out (by simp [impl_LearnForm.j4])
          | succ kj58 =>
           have H := HA.out
           clear HA
           simp only [impl_LearnForm.j4] at H
           have H' := Aside0.mk H
           clear H
           go_wp2
           go_loopg [105] kj58 (fun kq v105 w' => ∃ (x105_4 : Int) (x139003_4 : Bool), v105 = .int .i64 x105_4 ∧ Aside0 (impl_LearnForm.l3 kq x5_2 (x5_2.length : Int) x105_4 x139000_58 x139001_58 (x5_2.length : Int) x139003_4 = some (r1, r2, r3, r4)) ∧ Aside0 (kq ≤ kj58) ∧ Aside0 (Kd.N k40 40 w' w.heap.size (fun k_ => (P0_ k_ ∨ w.heap.size ≤ k_) ∧ k_ ≠ gb127 ∧ k_ ≠ gb128 ∧ k_ ≠ gb138) (.slice (some ad139) x5_2.length co60) x5_2) ∧ Aside0 (w'.heap[gb127]? = some (.cells #[.int .i64 a1_0, .int .i64 a1_1, .int .i64 a1_2] 26 (0, 0))) ∧ Aside0 (w'.heap[gb128]? = some (.cells #[.int .i64 0, .int .i64 0, .int .i64 0, .bool false] 85 (0, 0))) ∧ Aside0 (w'.heap[gb138]? = some (.cells #[.int .i64 x139000_58, .int .i64 x139001_58, .int .i64 (x5_2.length : Int), .bool x139003_4] 85 (0, 0))) ∧ Aside0 (Below w.heap.size w w'))
           case atStart => exact ⟨(0), (true), (by first | rfl | (simp; done) | (simp [*]; done)), H', ⟨Nat.le_refl _⟩, ⟨PN HO_5⟩, ⟨PK BK127⟩, ⟨PK BK128⟩, ⟨PK BK138⟩, ⟨PB⟩⟩
           case round =>
            clear H'
            (try clear c1); (try clear p1); (try clear q1); (try clear hx1); (try clear p2); (try clear c3); (try clear c6); (try clear p6); (try clear c7); (try clear c8); (try clear c9); (try clear c10); (try clear c11); (try clear p13); (try clear q13); (try clear hx13); (try clear c14); (try clear p14); (try clear q14); (try clear hx14); (try clear c35); (try clear p64); (try clear c69); (try clear c69b0); (try clear c70); (try clear c71); (try clear c83); (try clear c83b0); (try clear c87); (try clear c87b0); (try clear c87b1); (try clear c89); (try clear c90); (try clear c91); (try clear c92); (try clear c99); (try clear c100); (try clear c101); (try clear c104); (try clear c105); (try clear c106); (try clear c107); (try clear hcz102_0); (try clear hcz102_1); (try clear hcz102_2); (try clear hcz102_3); (try clear hcz108_0); (try clear hcz108_1); (try clear hcz108_2); (try clear hcz108_3); (try clear hcz93_0); (try clear hcz93_1); (try clear hcz93_2); (try clear hcz93_3); (try clear hcz98_0); (try clear hcz98_1); (try clear hcz98_2); (try clear hcz98_3); (try clear hfz102_0); (try clear hfz102_1); (try clear hfz102_2); (try clear hfz102_3); (try clear hfz108_0); (try clear hfz108_1); (try clear hfz108_2); (try clear hfz108_3); (try clear hfz16_1); (try clear hfz16_2); (try clear hfz16_3); (try clear hfz28_0); (try clear hfz28_1); (try clear hfz28_2); (try clear hfz28_3); (try clear hfz28_4); (try clear hfz28_5); (try clear hfz28_6); (try clear hfz28_7); (try clear hfz28_8); (try clear hfz30_0); (try clear hfz30_1); (try clear hfz30_2); (try clear hfz32_0); (try clear hfz32_1); (try clear hfz32_2); (try clear hfz32_3); (try clear hfz32_4); (try clear hfz32_5); (try clear hfz32_6); (try clear hfz32_7); (try clear hfz32_8); (try clear hfz37_0); (try clear hfz37_1); (try clear hfz37_2); (try clear hfz37_3); (try clear hfz37_4); (try clear hfz37_5); (try clear hfz37_6); (try clear hfz37_7); (try clear hfz37_8); (try clear hfz39_0); (try clear hfz39_1); (try clear hfz39_2); (try clear hfz41_0); (try clear hfz41_1); (try clear hfz41_2); (try clear hfz41_3); (try clear hfz41_4); (try clear hfz41_5); (try clear hfz41_6); (try clear hfz41_7); (try clear hfz41_8); (try clear hfz45_0); (try clear hfz45_1); (try clear hfz45_2); (try clear hfz45_3); (try clear hfz45_4); (try clear hfz45_5); (try clear hfz45_6); (try clear hfz45_7); (try clear hfz45_8); (try clear hfz47_0); (try clear hfz47_1); (try clear hfz47_2); (try clear hfz54_0); (try clear hfz54_1); (try clear hfz54_2); (try clear hfz54_3); (try clear hfz56_0); (try clear hfz56_1); (try clear hfz56_2); (try clear hfz56_3); (try clear hfz64_0); (try clear hfz64_1); (try clear hfz64_2); (try clear hfz64_3); (try clear hfz68_0); (try clear hfz68_1); (try clear hfz68_2); (try clear hfz68_3); (try clear hfz77_0); (try clear hfz77_1); (try clear hfz77_2); (try clear hfz77_3); (try clear hfz77_4); (try clear hfz77_5); (try clear hfz77_6); (try clear hfz77_7); (try clear hfz77_8); (try clear hfz82_0); (try clear hfz82_1); (try clear hfz82_2); (try clear hfz82_3); (try clear hfz82_4); (try clear hfz82_5); (try clear hfz82_6); (try clear hfz82_7); (try clear hfz82_8); (try clear hfz93_0); (try clear hfz93_1); (try clear hfz93_2); (try clear hfz93_3); (try clear hfz98_0); (try clear hfz98_1); (try clear hfz98_2); (try clear hfz98_3); (try clear hx131_0); (try clear hx131_1); (try clear hx131_2); (try clear hx131_3); (try clear hx131_4); (try clear hx131_5); (try clear hx131_6); (try clear hx131_7); (try clear hx131_8); (try clear hx139_0); (try clear hx139_1); (try clear hx139_2); (try clear hx139_3); (try clear hx139_4); (try clear hx139_5); (try clear hx139_6); (try clear hx139_7); (try clear hx139_8); (try clear hx140_0); (try clear hx140_1); (try clear hx140_2); (try clear hx140_3); (try clear hx140_4); (try clear hx140_5); (try clear hx140_6); (try clear hx140_7); (try clear hx140_8); (try clear hx142_0); (try clear hx142_1); (try clear hx142_2); (try clear hx142_3); (try clear hx142_4); (try clear hx142_5); (try clear hx142_6); (try clear hx142_7); (try clear hx142_8); (try clear p1); (try clear p13); (try clear p131); (try clear p139); (try clear p14); (try clear p140); (try clear p142); (try clear p2); (try clear p6); (try clear p64); (try clear q1); (try clear q13); (try clear q131); (try clear q139); (try clear q14); (try clear q140); (try clear q142)
            obtain ⟨x105_4, x139003_4, rfl, HA, HK4, HO_103, BK127, BK128, BK138, HB⟩ := hrel
            cases gk with
            | zero => exact absurd HA.out (by simp [impl_LearnForm.l3])
            | succ k4 =>
             have H := HA.out
             clear HA
             simp only [impl_LearnForm.l3] at H
             by_cases c113 : x105_4 < (x5_2.length : Int)
             ·rw [if_pos c113] at H
              have c113b0 : decide (x105_4 < (x5_2.length : Int)) = true := decide_eq_true c113
              clear c113
              by_cases c114 : 0 ≤ x105_4
              ·rw [if_pos c114] at H
               have c114b0 : decide (0 ≤ x105_4) = true := decide_eq_true c114
               clear c114
               by_cases c115 : x105_4 < (x5_2.length : Int)
               ·rw [if_pos c115] at H
                have c115b0 : decide (x105_4 < (x5_2.length : Int)) = true := decide_eq_true c115
                clear c115
                by_cases c116 : x139003_4 = true
                ·subst c116
                 have H1 : ((impl_Model_says.f x139000_58 x139001_58 (x5_2.length : Int) true ((rd_T40 x5_2 x105_4).f0.f2)).bind fun t150 => ((impl_ValueOfResource.f k4 ((rd_T40 x5_2 x105_4).f2.f0) ((rd_T40 x5_2 x105_4).f2.f1) ((rd_T40 x5_2 x105_4).f2.f2.f0) ((rd_T40 x5_2 x105_4).f2.f2.f1) ((rd_T40 x5_2 x105_4).f2.f2.f2)).bind fun t151 => (impl_LearnForm.l3 k4 x5_2 (x5_2.length : Int) (wrap64 (x105_4 + 1)) x139000_58 x139001_58 (x5_2.length : Int) (t150 == t151)))) = some (r1, r2, r3, r4) := by rw [if_pos rfl] at H; exact H
                 clear H
                 have H := H1
                 clear H1
                 replace H := Option.bind_eq_some_iff.mp H
                 obtain ⟨t150, A1170, H⟩ := H
                 replace H : ((impl_ValueOfResource.f k4 ((rd_T40 x5_2 x105_4).f2.f0) ((rd_T40 x5_2 x105_4).f2.f1) ((rd_T40 x5_2 x105_4).f2.f2.f0) ((rd_T40 x5_2 x105_4).f2.f2.f1) ((rd_T40 x5_2 x105_4).f2.f2.f2)).bind fun t151 => (impl_LearnForm.l3 k4 x5_2 (x5_2.length : Int) (wrap64 (x105_4 + 1)) x139000_58 x139001_58 (x5_2.length : Int) (t150 == t151))) = some (r1, r2, r3, r4) := H
                 have A117 := Aside0.mk A1170
                 clear A1170
                 replace H := Option.bind_eq_some_iff.mp H
                 obtain ⟨t151, A1180, H⟩ := H
                 replace H : (impl_LearnForm.l3 k4 x5_2 (x5_2.length : Int) (wrap64 (x105_4 + 1)) x139000_58 x139001_58 (x5_2.length : Int) (t150 == t151)) = some (r1, r2, r3, r4) := H
                 have A118 := Aside0.mk A1180
                 clear A1180
                 have H' := Aside0.mk H
                 clear H
                 have p148 : 0 ≤ (x105_4 : Int) := of_decide_eq_true (by first | (with_reducible assumption) | assumption)
                 have q148 : x105_4 < (x5_2.length : Int) := of_decide_eq_true (by first | (with_reducible assumption) | assumption)
                 obtain ⟨ad148, A148_5, c148_5, e148, hx148_0, hx148_1, hx148_2, hx148_3, hx148_4, hx148_5, hx148_6, hx148_7, hx148_8, hl148_5, hi148_5⟩ := at_T40 (Kd.N_reads' HO_103.out).2.2 x105_4 p148 q148
                 obtain rfl : ad139 = ad148 := (by injection e148)
                 obtain ⟨ce148, hce148, hMe148, hcc148⟩ := Kd.N_get HO_103.out z40 x105_4 p148 (by first | exact q148 | exact of_decide_eq_true (by first | (with_reducible assumption) | assumption) | (have e_ := (Kd.N_reads' HO_103.out).1; omega))
                 obtain ⟨ua148_5, uc148_5, rfl, ul148_5, ge148_5⟩ := k40_openF hMe148
                 have hv148_5 := hcc148 5 _ rfl
                 rw [add_field _ _ 5 (by omega)] at hv148_5
                 replace hv148_5 := Option.some.inj (hv148_5.symm.trans hx148_5)
                 injection hv148_5 with hva_ hvn_ hvc_
                 rw [hva_] at ge148_5
                 rw [hvc_] at ul148_5
                 have HL148_5 := ak (show Kd.V (Kd.int .i64) 3 _ w.heap.size _ _ ((rd_T40 x5_2 x105_4).f2.f1) from Kd.V_mk ul148_5 ge148_5)
                 clear hva_ hvn_ hvc_ ge148_5 ul148_5
                 clear hcc148 hce148
                 have HR148_5 := Aside0.mk hi148_5
                 have HC148_5 := Aside0.mk hl148_5
                 clear hi148_5 hl148_5
                 replace p148 := eq_true p148
                 replace q148 := eq_true q148
                 try go_wp2_with (first | ((with_reducible refine gate_dst (N := 16) rfl ?_); refine bx_ (N := 16) #[.int .i64 0, .int .i64 0, .int .i64 0, .int .i64 0, .int .i64 0, .slice none 0 0, .int .i64 0, .int .i64 0, .int .i64 0] 40 ?_; intro gb149 hg w119 hbox hb; replace HO_103 := ak (Kd.N_below (Kd.N_elderB (PN HO_103) gb149 (Nat.le_of_eq hg.symm)) hb); replace HL148_5 := ak (Kd.V_below (Kd.V_elderB (PV HL148_5) gb149 (Nat.le_of_eq hg.symm)) hb); replace HR148_5 := Cb HR148_5 hb; have BK149 := ak hbox; have GW149 := gy hg HB; have GE149 := gy hg HB; replace HB := bs HB hb; have NB127_149 := gm hg BK127; have NB149_127 := gn hg BK127; replace BK127 := kf BK127 hb; have NB128_149 := gm hg BK128; have NB149_128 := gn hg BK128; replace BK128 := kf BK128 hb; have NB138_149 := gm hg BK138; have NB149_138 := gn hg BK138; replace BK138 := kf BK138 hb; clear hb hbox hg; have hnb120 := NB149_127.out; have hnc120 := NB127_149.out; have hnb121 := NB149_128.out; have hnc121 := NB128_149.out; have hnb122 := NB149_138.out; have hnc122 := NB138_149.out; obtain ⟨_, _, _, _, _, _, _, _, _, _, _, _, _, _, _, _, _, _⟩ := bc9 BK149))
                 generalize hW_ : (((((((((w119.setCell ⟨gb149, 0, none⟩ (.int .i64 ((rd_T40 x5_2 x105_4).f0.f0))).setCell ⟨gb149, 1, none⟩ (.int .i64 ((rd_T40 x5_2 x105_4).f0.f1))).setCell ⟨gb149, 2, none⟩ (.int .i64 ((rd_T40 x5_2 x105_4).f0.f2))).setCell ⟨gb149, 3, none⟩ (.int .i64 ((rd_T40 x5_2 x105_4).f1))).setCell ⟨gb149, 4, none⟩ (.int .i64 ((rd_T40 x5_2 x105_4).f2.f0))).setCell ⟨gb149, 5, none⟩ (.slice A148_5 ((rd_T40 x5_2 x105_4).f2.f1).length c148_5)).setCell ⟨gb149, 6, none⟩ (.int .i64 ((rd_T40 x5_2 x105_4).f2.f2.f0))).setCell ⟨gb149, 7, none⟩ (.int .i64 ((rd_T40 x5_2 x105_4).f2.f2.f1))).setCell ⟨gb149, 8, none⟩ (.int .i64 ((rd_T40 x5_2 x105_4).f2.f2.f2))) = w124
                 replace HO_103 : Aside0 (Kd.N k40 40 w124 w.heap.size (fun k_ => (P0_ k_ ∨ w.heap.size ≤ k_) ∧ k_ ≠ gb127 ∧ k_ ≠ gb128 ∧ k_ ≠ gb138 ∧ k_ ≠ gb149) (.slice (some ad139) x5_2.length co60) x5_2) := ⟨by rw [← hW_]; exact NX (Kd.N_mono HO_103.out (fun k_ hk => (⟨hk, hk.2⟩ : _ ∧ k_ ≠ gb149))) (fun _ hk => ⟨hk.1.1.1, ⟨hk.1.1.2.1, ⟨hk.1.1.2.2.1, ⟨hk.1.1.2.2.2, hk.1.2⟩⟩⟩⟩)⟩
                 replace HL148_5 : Aside0 (Kd.V (Kd.int .i64) 3 w124 w.heap.size (fun k_ => (P0_ k_ ∨ w.heap.size ≤ k_) ∧ some k_ ≠ (.slice (some ad139) x5_2.length co60 : Value).ownBlock ∧ k_ ≠ gb127 ∧ k_ ≠ gb128 ∧ k_ ≠ gb138 ∧ k_ ≠ gb149) (.slice A148_5 ((rd_T40 x5_2 x105_4).f2.f1).length c148_5) ((rd_T40 x5_2 x105_4).f2.f1)) := ⟨by rw [← hW_]; exact VX (Kd.V_mono HL148_5.out (fun k_ hk => (⟨hk, hk.2⟩ : _ ∧ k_ ≠ gb149))) (fun _ hk => ⟨hk.1.1.1.1, ⟨hk.1.1.2, ⟨hk.1.1.1.2.1, ⟨hk.1.1.1.2.2.1, ⟨hk.1.1.1.2.2.2, hk.1.2⟩⟩⟩⟩⟩)⟩
                 replace BK127 := BE hW_ BK127
                 replace BK128 := BE hW_ BK128
                 replace BK138 := BE hW_ BK138
                 replace BK149 : Aside0 (w124.heap[gb149]? = some (.cells #[.int .i64 ((rd_T40 x5_2 x105_4).f0.f0), .int .i64 ((rd_T40 x5_2 x105_4).f0.f1), .int .i64 ((rd_T40 x5_2 x105_4).f0.f2), .int .i64 ((rd_T40 x5_2 x105_4).f1), .int .i64 ((rd_T40 x5_2 x105_4).f2.f0), .slice A148_5 ((rd_T40 x5_2 x105_4).f2.f1).length c148_5, .int .i64 ((rd_T40 x5_2 x105_4).f2.f2.f0), .int .i64 ((rd_T40 x5_2 x105_4).f2.f2.f1), .int .i64 ((rd_T40 x5_2 x105_4).f2.f2.f2)] 40 (0, 0))) := BP hW_ BK149
                 replace HB := BL hW_ HB
                 (try clear hW_)
                 replace HO_103 := ak (Kd.N_drew HO_103.out)
                 replace HL148_5 := ak (Kd.V_drew HL148_5.out)
                 replace BK127 := ak (blk_drew BK127.out)
                 replace BK128 := ak (blk_drew BK128.out)
                 replace BK138 := ak (blk_drew BK138.out)
                 replace BK149 := ak (blk_drew BK149.out)
                 replace HB := ak (below_drew1 HB.out)
                 refine start_ (n := 15) (S := fun w' => w'.cell? ⟨gb138, 0, none⟩ = some (.int .i64 x139000_58) ∧ w'.cell? ⟨gb138, 1, none⟩ = some (.int .i64 x139001_58) ∧ w'.cell? ⟨gb138, 2, none⟩ = some (.int .i64 (x5_2.length : Int)) ∧ w'.cell? ⟨gb138, 3, none⟩ = some (.bool true) ∧ w'.cell? ⟨gb149, 0, none⟩ = some (.int .i64 ((rd_T40 x5_2 x105_4).f0.f0)) ∧ w'.cell? ⟨gb149, 1, none⟩ = some (.int .i64 ((rd_T40 x5_2 x105_4).f0.f1)) ∧ w'.cell? ⟨gb149, 2, none⟩ = some (.int .i64 ((rd_T40 x5_2 x105_4).f0.f2)) ∧ w'.cell? ⟨gb149, 3, none⟩ = some (.int .i64 ((rd_T40 x5_2 x105_4).f1)) ∧ w'.cell? ⟨gb149, 4, none⟩ = some (.int .i64 ((rd_T40 x5_2 x105_4).f2.f0)) ∧ w'.cell? ⟨gb149, 5, none⟩ = some (.slice A148_5 ((rd_T40 x5_2 x105_4).f2.f1).length c148_5) ∧ w'.cell? ⟨gb149, 6, none⟩ = some (.int .i64 ((rd_T40 x5_2 x105_4).f2.f2.f0)) ∧ w'.cell? ⟨gb149, 7, none⟩ = some (.int .i64 ((rd_T40 x5_2 x105_4).f2.f2.f1)) ∧ w'.cell? ⟨gb149, 8, none⟩ = some (.int .i64 ((rd_T40 x5_2 x105_4).f2.f2.f2))) (ds := [14]) b5_44 KR rfl rfl ⟨(blk_cell BK138.out 0).trans rfl, (blk_cell BK138.out 1).trans rfl, (blk_cell BK138.out 2).trans rfl, (blk_cell BK138.out 3).trans rfl, (blk_cell BK149.out 0).trans rfl, (blk_cell BK149.out 1).trans rfl, (blk_cell BK149.out 2).trans rfl, (blk_cell BK149.out 3).trans rfl, (blk_cell BK149.out 4).trans rfl, (blk_cell BK149.out 5).trans rfl, (blk_cell BK149.out 6).trans rfl, (blk_cell BK149.out 7).trans rfl, (blk_cell BK149.out 8).trans rfl⟩ (fun hHeld => ?_); refine with_tabW impl_LearnForm.tab30 impl_LearnForm.bits30 (fun HT_ HW_ => ?_)
                 generalize w124.drew = w125 at HO_103 HL148_5 BK127 BK128 BK138 BK149 HB hHeld ⊢
                 refine pu_ (i := 0) (N := some 109) b5_43 HT_ ?_
                 refine tk_ (i := 1) (N := some 110) b5_42 rfl rfl HT_ HW_ hHeld ?_
                 refine pu_ (i := 2) (N := some 111) b5_41 HT_ ?_
                 refine pu_ (i := 4) (N := some 113) #[true, true, true, false, true, false, false, false, false, false, false, false, false, false, false] HT_ ?_
                 refine pu_ (i := 5) (N := some 114) #[true, true, true, false, true, true, false, false, false, false, false, false, false, false, false] HT_ ?_
                 refine pu_ (i := 8) (N := some 117) #[true, true, true, false, true, true, false, false, true, false, false, false, false, false, false] HT_ ?_
                 refine tk_ (i := 3) (N := some 112) #[true, true, true, true, true, true, false, false, true, false, false, false, false, false, false] rfl rfl HT_ HW_ hHeld ?_
                 refine take_ (i := 6) (N := some 115) (v := ?_) (a' := ?_) #[true, true, true, true, true, true, true, false, true, false, false, false, false, false, false] rfl rfl (take_ofW HT_.out HW_.out KR) (fun _ _ _ h => h) (Or.inl ⟨by rfl, ?_⟩) hHeld ?_ ?_
                 rotate_left
                 ·rintro w' ⟨s0, s1, s2, s3, s4, s5, s6, s7, s8, s9, s10, s11, s12⟩
                  go_simp
                  with_reducible rfl
                 rotate_left
                 ·simp only [Act.put, List.setIfInBounds_toArray, List.set_cons_zero, List.set_cons_succ, i64_w, i32_w]
                  rfl
                 refine tk_ (i := 9) (N := some 118) #[true, true, true, true, true, true, true, false, true, true, false, false, false, false, false] rfl rfl HT_ HW_ hHeld ?_
                 refine one_ (i := 7) (N := some 116) b5_28 rfl rfl (one_of HT_.out KR) (by decide) (fun K hK => ?_)
                 refine goes_ Try.func116 KR rfl #[.agg #[.int .i64 x139000_58, .int .i64 x139001_58, .int .i64 (x5_2.length : Int), .bool true], .int .i64 ((rd_T40 x5_2 x105_4).f0.f2)] (by rfl) rfl rfl AR ?_
                 with_reducible refine (impl_Model_says.calls x139000_58 x139001_58 (x5_2.length : Int) true ((rd_T40 x5_2 x105_4).f0.f2) t150 _ A117.out).mono ?_
                 rintro e w126 ⟨rfl, hb⟩
                 refine ⟨_, rfl, ?_⟩
                 replace HO_103 := Nb HO_103 hb
                 replace HL148_5 := Vb HL148_5 hb
                 replace BK127 := kf BK127 hb
                 replace BK128 := kf BK128 hb
                 replace BK138 := kf BK138 hb
                 replace BK149 := kf BK149 hb
                 replace HB := bs HB hb
                 (try clear hb)
                 (try clear hb2)
                 (try clear hk)
                 (try clear hi)
                 refine hK.out _ _ ⟨(blk_cell BK138.out 0).trans rfl, (blk_cell BK138.out 1).trans rfl, (blk_cell BK138.out 2).trans rfl, (blk_cell BK138.out 3).trans rfl, (blk_cell BK149.out 0).trans rfl, (blk_cell BK149.out 1).trans rfl, (blk_cell BK149.out 2).trans rfl, (blk_cell BK149.out 3).trans rfl, (blk_cell BK149.out 4).trans rfl, (blk_cell BK149.out 5).trans rfl, (blk_cell BK149.out 6).trans rfl, (blk_cell BK149.out 7).trans rfl, (blk_cell BK149.out 8).trans rfl⟩ (fun hHeld => ?_)
                 clear hK K
                 refine norm_ (a' := ?_) ?_ ?_
                 rotate_left
                 ·show Act.put _ (some 116) _ = _
                  simp only [Act.put, List.setIfInBounds_toArray, List.set_cons_zero, List.set_cons_succ, i64_w, i32_w]
                  rfl
                 refine one_ (i := 10) (N := some 119) b5_27 rfl rfl (one_of HT_.out KR) (by decide) (fun K hK => ?_)
                 refine goes_ Try.func35 KR rfl #[.agg #[.int .i64 ((rd_T40 x5_2 x105_4).f2.f0), .slice A148_5 ((rd_T40 x5_2 x105_4).f2.f1).length c148_5, .int .i64 ((rd_T40 x5_2 x105_4).f2.f2.f0), .int .i64 ((rd_T40 x5_2 x105_4).f2.f2.f1), .int .i64 ((rd_T40 x5_2 x105_4).f2.f2.f2)]] (by rfl) rfl rfl AR ?_
                 with_reducible refine (impl_ValueOfResource.calls k4 ((rd_T40 x5_2 x105_4).f2.f0) _ _ ((rd_T40 x5_2 x105_4).f2.f1) ((rd_T40 x5_2 x105_4).f2.f2.f0) ((rd_T40 x5_2 x105_4).f2.f2.f1) ((rd_T40 x5_2 x105_4).f2.f2.f2) t151 _ ?side1 ?side2 A118.out).mono ?_
                 (case side1 => exact CR (((Kd.V_reads' HL148_5.out).2.2)))
                 (case side2 => exact HC148_5.out)
                 rintro e w127 ⟨rfl, hb⟩
                 refine ⟨_, rfl, ?_⟩
                 replace HO_103 := Nb HO_103 hb
                 replace HL148_5 := Vb HL148_5 hb
                 replace BK127 := kf BK127 hb
                 replace BK128 := kf BK128 hb
                 replace BK138 := kf BK138 hb
                 replace BK149 := kf BK149 hb
                 replace HB := bs HB hb
                 (try clear hb)
                 (try clear hb2)
                 (try clear hk)
                 (try clear hi)
                 refine hK.out _ _ ⟨(blk_cell BK138.out 0).trans rfl, (blk_cell BK138.out 1).trans rfl, (blk_cell BK138.out 2).trans rfl, (blk_cell BK138.out 3).trans rfl, (blk_cell BK149.out 0).trans rfl, (blk_cell BK149.out 1).trans rfl, (blk_cell BK149.out 2).trans rfl, (blk_cell BK149.out 3).trans rfl, (blk_cell BK149.out 4).trans rfl, (blk_cell BK149.out 5).trans rfl, (blk_cell BK149.out 6).trans rfl, (blk_cell BK149.out 7).trans rfl, (blk_cell BK149.out 8).trans rfl⟩ (fun hHeld => ?_)
                 clear hK K
                 refine norm_ (a' := ?_) ?_ ?_
                 rotate_left
                 ·show Act.put _ (some 119) _ = _
                  simp only [Act.put, List.setIfInBounds_toArray, List.set_cons_zero, List.set_cons_succ, i64_w, i32_w]
                  rfl
                 refine pu_ (i := 11) (N := some 120) b5_26 HT_ ?_
                 refine pu_ (i := 12) (N := some 121) b5_25 HT_ ?_
                 refine pu_ (i := 13) (N := some 122) b5_24 HT_ ?_
                 refine last_ (i := 14) (N := none) b5_23 rfl rfl (one_of HT_.out KR) (by decide) (fun K hK => ?_)
                 have hs128 : w127.cell? ⟨gb138, 3, none⟩ = some (.bool true) := (blk_cell BK138.out 3).trans rfl
                 have hfs128 := blk_frozen BK138.out 3
                 have hns128_0 := NB127_138.out
                 have hns128_1 := NB128_138.out
                 have hns128_3 := NB149_138.out
                 have hms128_0 := NB138_127.out
                 have hms128_1 := NB138_128.out
                 have hms128_3 := NB138_149.out
                 refine skip_ (w1 := ?_) (by rfl) rfl ?_ ?_
                 rotate_left
                 ·go_simp
                  rfl
                 refine hK.out _ _ ?_
                 clear hK K
                 refine done_ (done_of HT_.out KR) ?_
                 try go_wp2
                 go_roundg k4
                 case measure => have := HJ2.out; have := HK2.out; have := HJ58.out; have := HK4.out; omega
                 case rel => exact ⟨(wrap64 (x105_4 + 1)), ((t150 == t151)), (by first | rfl | (simp; done) | (simp [*]; done)), H', ⟨by have := HJ2.out; have := HK2.out; have := HJ58.out; have := HK4.out; omega⟩, ⟨NX (Kd.N_mono HO_103.out (fun k_ hk => (⟨hk, hk.2.2.2.1⟩ : _ ∧ k_ ≠ gb138))) (fun _ hk => ⟨hk.1.1, ⟨hk.1.2.1, ⟨hk.1.2.2.1, hk.1.2.2.2.1⟩⟩⟩)⟩, ⟨PF BK127⟩, ⟨PF BK128⟩, ⟨PX BK138⟩, ⟨PB⟩⟩
                ·replace c116 := Bool.eq_false_iff.mpr c116
                 subst c116
                 have H1 : (impl_LearnForm.l3 k4 x5_2 (x5_2.length : Int) (wrap64 (x105_4 + 1)) x139000_58 x139001_58 (x5_2.length : Int) false) = some (r1, r2, r3, r4) := by rw [if_neg (show ¬ (false = true) by decide)] at H; exact H
                 clear H
                 have H := H1
                 clear H1
                 have H' := Aside0.mk H
                 clear H
                 have p148 : 0 ≤ (x105_4 : Int) := of_decide_eq_true (by first | (with_reducible assumption) | assumption)
                 have q148 : x105_4 < (x5_2.length : Int) := of_decide_eq_true (by first | (with_reducible assumption) | assumption)
                 obtain ⟨ad148, A148_5, c148_5, e148, hx148_0, hx148_1, hx148_2, hx148_3, hx148_4, hx148_5, hx148_6, hx148_7, hx148_8, hl148_5, hi148_5⟩ := at_T40 (Kd.N_reads' HO_103.out).2.2 x105_4 p148 q148
                 obtain rfl : ad139 = ad148 := (by injection e148)
                 obtain ⟨ce148, hce148, hMe148, hcc148⟩ := Kd.N_get HO_103.out z40 x105_4 p148 (by first | exact q148 | exact of_decide_eq_true (by first | (with_reducible assumption) | assumption) | (have e_ := (Kd.N_reads' HO_103.out).1; omega))
                 obtain ⟨ua148_5, uc148_5, rfl, ul148_5, ge148_5⟩ := k40_openF hMe148
                 have hv148_5 := hcc148 5 _ rfl
                 rw [add_field _ _ 5 (by omega)] at hv148_5
                 replace hv148_5 := Option.some.inj (hv148_5.symm.trans hx148_5)
                 injection hv148_5 with hva_ hvn_ hvc_
                 rw [hva_] at ge148_5
                 rw [hvc_] at ul148_5
                 have HL148_5 := ak (show Kd.V (Kd.int .i64) 3 _ w.heap.size _ _ ((rd_T40 x5_2 x105_4).f2.f1) from Kd.V_mk ul148_5 ge148_5)
                 clear hva_ hvn_ hvc_ ge148_5 ul148_5
                 clear hcc148 hce148
                 have HR148_5 := Aside0.mk hi148_5
                 have HC148_5 := Aside0.mk hl148_5
                 clear hi148_5 hl148_5
                 replace p148 := eq_true p148
                 replace q148 := eq_true q148
                 try go_wp2_with (first | ((with_reducible refine gate_dst (N := 16) rfl ?_); refine bx_ (N := 16) #[.int .i64 0, .int .i64 0, .int .i64 0, .int .i64 0, .int .i64 0, .slice none 0 0, .int .i64 0, .int .i64 0, .int .i64 0] 40 ?_; intro gb149 hg w129 hbox hb; replace HO_103 := ak (Kd.N_below (Kd.N_elderB (PN HO_103) gb149 (Nat.le_of_eq hg.symm)) hb); replace HL148_5 := ak (Kd.V_below (Kd.V_elderB (PV HL148_5) gb149 (Nat.le_of_eq hg.symm)) hb); replace HR148_5 := Cb HR148_5 hb; have BK149 := ak hbox; have GW149 := gy hg HB; have GE149 := gy hg HB; replace HB := bs HB hb; have NB127_149 := gm hg BK127; have NB149_127 := gn hg BK127; replace BK127 := kf BK127 hb; have NB128_149 := gm hg BK128; have NB149_128 := gn hg BK128; replace BK128 := kf BK128 hb; have NB138_149 := gm hg BK138; have NB149_138 := gn hg BK138; replace BK138 := kf BK138 hb; clear hb hbox hg; have hnb130 := NB149_127.out; have hnc130 := NB127_149.out; have hnb131 := NB149_128.out; have hnc131 := NB128_149.out; have hnb132 := NB149_138.out; have hnc132 := NB138_149.out; obtain ⟨_, _, _, _, _, _, _, _, _, _, _, _, _, _, _, _, _, _⟩ := bc9 BK149))
                 generalize hW_ : (((((((((w129.setCell ⟨gb149, 0, none⟩ (.int .i64 ((rd_T40 x5_2 x105_4).f0.f0))).setCell ⟨gb149, 1, none⟩ (.int .i64 ((rd_T40 x5_2 x105_4).f0.f1))).setCell ⟨gb149, 2, none⟩ (.int .i64 ((rd_T40 x5_2 x105_4).f0.f2))).setCell ⟨gb149, 3, none⟩ (.int .i64 ((rd_T40 x5_2 x105_4).f1))).setCell ⟨gb149, 4, none⟩ (.int .i64 ((rd_T40 x5_2 x105_4).f2.f0))).setCell ⟨gb149, 5, none⟩ (.slice A148_5 ((rd_T40 x5_2 x105_4).f2.f1).length c148_5)).setCell ⟨gb149, 6, none⟩ (.int .i64 ((rd_T40 x5_2 x105_4).f2.f2.f0))).setCell ⟨gb149, 7, none⟩ (.int .i64 ((rd_T40 x5_2 x105_4).f2.f2.f1))).setCell ⟨gb149, 8, none⟩ (.int .i64 ((rd_T40 x5_2 x105_4).f2.f2.f2))) = w134
                 replace HO_103 : Aside0 (Kd.N k40 40 w134 w.heap.size (fun k_ => (P0_ k_ ∨ w.heap.size ≤ k_) ∧ k_ ≠ gb127 ∧ k_ ≠ gb128 ∧ k_ ≠ gb138 ∧ k_ ≠ gb149) (.slice (some ad139) x5_2.length co60) x5_2) := ⟨by rw [← hW_]; exact NX (Kd.N_mono HO_103.out (fun k_ hk => (⟨hk, hk.2⟩ : _ ∧ k_ ≠ gb149))) (fun _ hk => ⟨hk.1.1.1, ⟨hk.1.1.2.1, ⟨hk.1.1.2.2.1, ⟨hk.1.1.2.2.2, hk.1.2⟩⟩⟩⟩)⟩
                 replace HL148_5 : Aside0 (Kd.V (Kd.int .i64) 3 w134 w.heap.size (fun k_ => (P0_ k_ ∨ w.heap.size ≤ k_) ∧ some k_ ≠ (.slice (some ad139) x5_2.length co60 : Value).ownBlock ∧ k_ ≠ gb127 ∧ k_ ≠ gb128 ∧ k_ ≠ gb138 ∧ k_ ≠ gb149) (.slice A148_5 ((rd_T40 x5_2 x105_4).f2.f1).length c148_5) ((rd_T40 x5_2 x105_4).f2.f1)) := ⟨by rw [← hW_]; exact VX (Kd.V_mono HL148_5.out (fun k_ hk => (⟨hk, hk.2⟩ : _ ∧ k_ ≠ gb149))) (fun _ hk => ⟨hk.1.1.1.1, ⟨hk.1.1.2, ⟨hk.1.1.1.2.1, ⟨hk.1.1.1.2.2.1, ⟨hk.1.1.1.2.2.2, hk.1.2⟩⟩⟩⟩⟩)⟩
                 replace BK127 := BE hW_ BK127
                 replace BK128 := BE hW_ BK128
                 replace BK138 := BE hW_ BK138
                 replace BK149 : Aside0 (w134.heap[gb149]? = some (.cells #[.int .i64 ((rd_T40 x5_2 x105_4).f0.f0), .int .i64 ((rd_T40 x5_2 x105_4).f0.f1), .int .i64 ((rd_T40 x5_2 x105_4).f0.f2), .int .i64 ((rd_T40 x5_2 x105_4).f1), .int .i64 ((rd_T40 x5_2 x105_4).f2.f0), .slice A148_5 ((rd_T40 x5_2 x105_4).f2.f1).length c148_5, .int .i64 ((rd_T40 x5_2 x105_4).f2.f2.f0), .int .i64 ((rd_T40 x5_2 x105_4).f2.f2.f1), .int .i64 ((rd_T40 x5_2 x105_4).f2.f2.f2)] 40 (0, 0))) := BP hW_ BK149
                 replace HB := BL hW_ HB
                 (try clear hW_)
                 replace HO_103 := ak (Kd.N_drew HO_103.out)
                 replace HL148_5 := ak (Kd.V_drew HL148_5.out)
                 replace BK127 := ak (blk_drew BK127.out)
                 replace BK128 := ak (blk_drew BK128.out)
                 replace BK138 := ak (blk_drew BK138.out)
                 replace BK149 := ak (blk_drew BK149.out)
                 replace HB := ak (below_drew1 HB.out)
                 refine start_ (n := 15) (S := fun w' => w'.cell? ⟨gb138, 0, none⟩ = some (.int .i64 x139000_58) ∧ w'.cell? ⟨gb138, 1, none⟩ = some (.int .i64 x139001_58) ∧ w'.cell? ⟨gb138, 2, none⟩ = some (.int .i64 (x5_2.length : Int)) ∧ w'.cell? ⟨gb138, 3, none⟩ = some (.bool false)) (ds := [14]) b5_44 KR rfl rfl ⟨(blk_cell BK138.out 0).trans rfl, (blk_cell BK138.out 1).trans rfl, (blk_cell BK138.out 2).trans rfl, (blk_cell BK138.out 3).trans rfl⟩ (fun hHeld => ?_); refine with_tabW impl_LearnForm.tab30 impl_LearnForm.bits30 (fun HT_ HW_ => ?_)
                 generalize w134.drew = w135 at HO_103 HL148_5 BK127 BK128 BK138 BK149 HB hHeld ⊢
                 refine pu_ (i := 0) (N := some 109) b5_43 HT_ ?_
                 refine tk_ (i := 1) (N := some 110) b5_42 rfl rfl HT_ HW_ hHeld ?_
                 refine pu_ (i := 2) (N := some 111) b5_41 HT_ ?_
                 refine un_ (i := 3) (N := some 112) #[true, true, true, true, false, false, false, false, false, false, false, false, false, false, false] HT_ ?_
                 refine un_ (i := 4) (N := some 113) #[true, true, true, true, true, false, false, false, false, false, false, false, false, false, false] HT_ ?_
                 refine un_ (i := 5) (N := some 114) #[true, true, true, true, true, true, false, false, false, false, false, false, false, false, false] HT_ ?_
                 refine un_ (i := 6) (N := some 115) #[true, true, true, true, true, true, true, false, false, false, false, false, false, false, false] HT_ ?_
                 refine un_ (i := 7) (N := some 116) #[true, true, true, true, true, true, true, true, false, false, false, false, false, false, false] HT_ ?_
                 refine un_ (i := 8) (N := some 117) #[true, true, true, true, true, true, true, true, true, false, false, false, false, false, false] HT_ ?_
                 refine un_ (i := 9) (N := some 118) b5_28 HT_ ?_
                 refine un_ (i := 10) (N := some 119) b5_27 HT_ ?_
                 refine un_ (i := 11) (N := some 120) b5_26 HT_ ?_
                 refine pu_ (i := 12) (N := some 121) b5_25 HT_ ?_
                 refine pu_ (i := 13) (N := some 122) b5_24 HT_ ?_
                 refine last_ (i := 14) (N := none) b5_23 rfl rfl (one_of HT_.out KR) (by decide) (fun K hK => ?_)
                 have hs136 : w135.cell? ⟨gb138, 3, none⟩ = some (.bool false) := (blk_cell BK138.out 3).trans rfl
                 have hfs136 := blk_frozen BK138.out 3
                 have hns136_0 := NB127_138.out
                 have hns136_1 := NB128_138.out
                 have hns136_3 := NB149_138.out
                 have hms136_0 := NB138_127.out
                 have hms136_1 := NB138_128.out
                 have hms136_3 := NB138_149.out
                 refine skip_ (w1 := ?_) (by rfl) rfl ?_ ?_
                 rotate_left
                 ·go_simp
                  rfl
                 refine hK.out _ _ ?_
                 clear hK K
                 refine done_ (done_of HT_.out KR) ?_
                 try go_wp2
                 go_roundg k4
                 case measure => have := HJ2.out; have := HK2.out; have := HJ58.out; have := HK4.out; omega
                 case rel => exact ⟨(wrap64 (x105_4 + 1)), (false), (by first | rfl | (simp; done) | (simp [*]; done)), H', ⟨by have := HJ2.out; have := HK2.out; have := HJ58.out; have := HK4.out; omega⟩, ⟨NX (Kd.N_mono HO_103.out (fun k_ hk => (⟨hk, hk.2.2.2.1⟩ : _ ∧ k_ ≠ gb138))) (fun _ hk => ⟨hk.1.1, ⟨hk.1.2.1, ⟨hk.1.2.2.1, hk.1.2.2.2.1⟩⟩⟩)⟩, ⟨PF BK127⟩, ⟨PF BK128⟩, ⟨PX BK138⟩, ⟨PB⟩⟩
               ·rw [if_neg c115] at H
                exact absurd H (by simp)
              ·rw [if_neg c114] at H
               exact absurd H (by simp)
             ·rw [if_neg c113] at H
              have c113b0 : decide (x105_4 < (x5_2.length : Int)) = false := decide_eq_false c113
              clear c113
              simp only [Option.some.injEq, Prod.mk.injEq] at H
              obtain ⟨rfl, rfl, rfl, rfl⟩ := H
              have hnb137 := NB138_127.out
              have hnc137 := NB127_138.out
              have hnb138 := NB138_128.out
              have hnc138 := NB128_138.out
              obtain ⟨_, _, _, _, _, _, _, _⟩ := bc4 BK138
              have hnb140 := NB128_127.out
              have hnc140 := NB127_128.out
              obtain ⟨_, _, _, _, _, _, _, _⟩ := bc4 BK128
              go_wp2
              refine bodyPost_ret (results_cell_row rfl _ _ gb128 85 #[.int .i64 x139000_58, .int .i64 x139001_58, .int .i64 (x5_2.length : Int), .bool x139003_4] (0, 0) _ rfl (PX BK128) Try.underlying85 rfl KR) rfl ?_
              exact ⟨RT, PB⟩
        ·rw [if_neg c57] at H
         exact absurd H (by simp)

end Go.Proofs.Ytgcamebeonodeaa.MFnForms
