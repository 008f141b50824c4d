-- Written by a program of this session out of the translation's own print. Not trusted: Lean checks it.
import Derived.Test.YtgcamebeonodeaaShr2
import Derived.Test.YtgcamebeonodeaaMFnExactLearnFormx0
import Derived.Test.YtgcamebeonodeaaMFnExactLearnFormx6
import Derived.Test.YtgcamebeonodeaaMFnExactLearnFormx7
namespace Go.Proofs.Ytgcamebeonodeaa.MFnExactLearnForm
open Go.RowKit Go.Proofs.YtgcamebeonodeaaW.PrintWords Go.Proofs.YtgcamebeonodeaaW.PrintLast Go.Proofs.YtgcamebeonodeaaW.PrintMore
attribute [local go_sem] max2_int min2_int max_two min_two max_three min_three max_four min_four   -- for this text's walks alone
set_option linter.unusedVariables false
set_option linter.unusedSimpArgs false

abbrev b8_0 : Array Bool := #[true, true, true, true, true, true, true, true, true]
abbrev b8_1 : Array Bool := #[true, true, true, true, true, true, true, true, false]
abbrev b8_2 : Array Bool := #[true, true, true, true, true, true, true, false, false]
abbrev b8_3 : Array Bool := #[true, true, true, true, false, true, true, false, false]
abbrev b8_4 : Array Bool := #[true, true, true, true, false, true, false, false, false]
abbrev b8_5 : Array Bool := #[true, true, true, false, false, true, false, false, false]
abbrev b8_6 : Array Bool := #[false, true, true, false, false, true, false, false, false]
abbrev b8_7 : Array Bool := #[false, true, true, false, false, false, false, false, false]
abbrev b8_8 : Array Bool := #[false, true, false, false, false, false, false, false, false]
abbrev b8_9 : Array Bool := #[false, false, false, false, false, false, false, false, false]
abbrev b8_23 : Array Bool := mkB 15 32767
abbrev b8_24 : Array Bool := mkB 15 16383
abbrev b8_25 : Array Bool := mkB 15 8191
abbrev b8_26 : Array Bool := mkB 15 4095
abbrev b8_27 : Array Bool := mkB 15 2047
abbrev b8_28 : Array Bool := mkB 15 1023
abbrev b8_41 : Array Bool := mkB 15 7
abbrev b8_42 : Array Bool := mkB 15 3
abbrev b8_43 : Array Bool := mkB 15 1
abbrev b8_44 : Array Bool := #[false, false, false, false, false, false, false, false, false, false, false, false, false, false, false]
/-! ### impl_LearnForm: function 51 -/
mutual
def impl_LearnForm.j0 : Nat → List (S40) → Bool → Int → Int → Int → Option (Int × Int × Int × Bool)
  | 0, _, _, _, _, _ => none
  | k + 1, x0, x24, x248000, x248001, x248002 => if x24 = true then (some (0, 0, 0, false)) else (impl_LearnForm.l0 k ([] : List (S40)) x0 (x0.length : Int) 0 x248000 x248001 x248002)
def impl_LearnForm.l0 : Nat → List (S40) → List (S40) → Int → Int → Int → Int → Int → Option (Int × Int × Int × Bool)
  | 0, _, _, _, _, _, _, _ => none
  | k + 1, x5, x26, x27, x28, x248000, x248001, x248002 => if x28 < x27 then (if 0 ≤ x28 then (if x28 < (x26.length : Int) then ((impl_sameForm.f ((rd_T40 x26 x28).f0.f0) ((rd_T40 x26 x28).f0.f1) ((rd_T40 x26 x28).f0.f2) ((rd_T40 x26 x28).f1) ((rd_T40 x26 x28).f2.f0) ((rd_T40 x26 x28).f2.f1) ((rd_T40 x26 x28).f2.f2.f0) ((rd_T40 x26 x28).f2.f2.f1) ((rd_T40 x26 x28).f2.f2.f2) x248000 x248001 x248002).bind fun t253 => (if t253 = true then ((impl_hasBody.f ((rd_T40 x26 x28).f2.f0)).bind fun t254 => (if t254 = true then (if x5.length < 1599289640401 then (impl_LearnForm.l0 k (x5 ++ [(⟨(⟨(rd_T40 x26 x28).f0.f0, (rd_T40 x26 x28).f0.f1, (rd_T40 x26 x28).f0.f2⟩ : S26), (rd_T40 x26 x28).f1, (⟨(rd_T40 x26 x28).f2.f0, (rd_T40 x26 x28).f2.f1, (⟨(rd_T40 x26 x28).f2.f2.f0, (rd_T40 x26 x28).f2.f2.f1, (rd_T40 x26 x28).f2.f2.f2⟩ : S26)⟩ : S38)⟩ : S40)]) x26 x27 (wrap64 (x28 + 1)) x248000 x248001 x248002) else (none)) else (impl_LearnForm.l0 k x5 x26 x27 (wrap64 (x28 + 1)) x248000 x248001 x248002))) else (impl_LearnForm.l0 k x5 x26 x27 (wrap64 (x28 + 1)) x248000 x248001 x248002))) else (none)) else (none)) else (if (x5.length : Int) = 0 then (some (0, 0, (x5.length : Int), true)) else (if 0 < (x5.length : Int) then ((impl_ValueOfResource.f k ((rd_T40 x5 0).f2.f0) ((rd_T40 x5 0).f2.f1) ((rd_T40 x5 0).f2.f2.f0) ((rd_T40 x5 0).f2.f2.f1) ((rd_T40 x5 0).f2.f2.f2)).bind fun t261 => (impl_LearnForm.l1 k x5 ((rd_T40 x5 0).f0.f2) t261 x5 (x5.length : Int) 0 t261 0 (x5.length : Int) true)) else (none)))
def impl_LearnForm.j4 : Nat → List (S40) → Int → Int → Int → Bool → Option (Int × Int × Int × Bool)
  | 0, _, _, _, _, _ => none
  | k + 1, x5, x259000, x259001, x259002, x259003 => impl_LearnForm.l3 k x5 (x5.length : Int) 0 x259000 x259001 x259002 x259003
def impl_LearnForm.l3 : Nat → List (S40) → Int → Int → Int → Int → Int → Bool → Option (Int × Int × Int × Bool)
  | 0, _, _, _, _, _, _, _ => none
  | k + 1, x103, x104, x105, x259000, x259001, x259002, x259003 => if x105 < x104 then (if 0 ≤ x105 then (if x105 < (x103.length : Int) then (if x259003 = true then ((impl_Model_says.f x259000 x259001 x259002 x259003 ((rd_T40 x103 x105).f0.f2)).bind fun t270 => ((impl_ValueOfResource.f k ((rd_T40 x103 x105).f2.f0) ((rd_T40 x103 x105).f2.f1) ((rd_T40 x103 x105).f2.f2.f0) ((rd_T40 x103 x105).f2.f2.f1) ((rd_T40 x103 x105).f2.f2.f2)).bind fun t271 => (impl_LearnForm.l3 k x103 x104 (wrap64 (x105 + 1)) x259000 x259001 x259002 (t270 == t271)))) else (impl_LearnForm.l3 k x103 x104 (wrap64 (x105 + 1)) x259000 x259001 x259002 false)) else (none)) else (none)) else (some (x259000, x259001, x259002, x259003))
def impl_LearnForm.l1 : Nat → List (S40) → Int → Int → List (S40) → Int → Int → Int → Int → Int → Bool → Option (Int × Int × Int × Bool)
  | 0, _, _, _, _, _, _, _, _, _, _ => none
  | k + 1, x5, x9, x10, x65, x66, x67, x259000, x259001, x259002, x259003 => if x67 < x66 then (if 0 ≤ x67 then (if x67 < (x65.length : Int) then (if ((rd_T40 x65 x67).f0.f2) = x9 then (impl_LearnForm.l1 k x5 x9 x10 x65 x66 (wrap64 (x67 + 1)) x259000 x259001 x259002 x259003) else (impl_LearnForm.l2 k x5 x9 x10 0 x259000 x259001 x259002 x259003 ((rd_T40 x65 x67).f0.f0) ((rd_T40 x65 x67).f0.f1) ((rd_T40 x65 x67).f0.f2) ((rd_T40 x65 x67).f1) ((rd_T40 x65 x67).f2.f0) ((rd_T40 x65 x67).f2.f1) ((rd_T40 x65 x67).f2.f2.f0) ((rd_T40 x65 x67).f2.f2.f1) ((rd_T40 x65 x67).f2.f2.f2))) else (none)) else (none)) else (impl_LearnForm.j4 k x5 x259000 x259001 x259002 x259003)
def impl_LearnForm.l2 : Nat → List (S40) → Int → Int → Int → Int → Int → Int → Bool → Int → Int → Int → Int → Int → List Int → Int → Int → Int → Option (Int × Int × Int × Bool)
  | 0, _, _, _, _, _, _, _, _, _, _, _, _, _, _, _, _, _ => none
  | k + 1, x5, x9, x10, x76, x259000, x259001, x259002, x259003, x264000, x264001, x264002, x264003, x264004, x264005, x264006, x264007, x264008 => if x76 < 1000 then ((impl_Mod.f (wrap64 (x10 - (wrap64 (x76 * x9)))) 1000).bind fun t264 => ((impl_Model_says.f t264 x76 0 false x264002).bind fun t266 => ((impl_ValueOfResource.f k x264004 x264005 x264006 x264007 x264008).bind fun t267 => (if t266 = t267 then (impl_LearnForm.j4 k x5 t264 x76 x259002 x259003) else (impl_LearnForm.l2 k x5 x9 x10 (wrap64 (x76 + 1)) x259000 x259001 x259002 x259003 x264000 x264001 x264002 x264003 x264004 x264005 x264006 x264007 x264008))))) else (impl_LearnForm.j4 k x5 x259000 x259001 x259002 x259003)
end
def impl_LearnForm.f (k : Nat) (l0 : List (S40)) (a1_0 : Int) (a1_1 : Int) (a1_2 : Int) : Option (Int × Int × Int × Bool) := (impl_AreCaptures.f k l0).bind fun t249 => (if t249 = true then ((impl_IsAddress.f a1_0 a1_1 a1_2).bind fun t250 => (impl_LearnForm.j0 k l0 (!t250) a1_0 a1_1 a1_2)) else (impl_LearnForm.j0 k l0 true a1_0 a1_1 a1_2))
def impl_LearnForm.T13 : Bool × List (List Nat × List Nat) := (true, [([], []), ([0], [0]), ([1], [1]), ([2], [2]), ([3], [3]), ([], []), ([5], [5]), ([6], [6]), ([7], [7]), ([8], [8]), ([4, 9, 0, 1, 2, 3, 4], [4]), ([9, 10, 0, 1, 2, 3, 4, 5, 6, 7, 8, 9, 10], [9])])
def impl_LearnForm.B13 : List Nat := [0, 1, 3, 7, 15, 0, 32, 96, 224, 480, 1023, 2047]
theorem impl_LearnForm.tab13 : rtab .any (opsOf Try.f51 13) = impl_LearnForm.T13 := by kernel_rfl
theorem impl_LearnForm.bits13 : waitsOk impl_LearnForm.T13.2 impl_LearnForm.B13 = true := by kernel_rfl
def impl_LearnForm.T23 : Bool × List (List Nat × List Nat) := (true, [([], []), ([], []), ([1], [1]), ([2], [2]), ([0, 3], [0, 3]), ([], []), ([5], [5]), ([6, 4], [6]), ([4, 7], [4, 7])])
def impl_LearnForm.B23 : List Nat := [0, 0, 2, 6, 15, 0, 32, 127, 255]
theorem impl_LearnForm.tab23 : rtab .any (opsOf Try.f51 23) = impl_LearnForm.T23 := by kernel_rfl
theorem impl_LearnForm.bits23 : waitsOk impl_LearnForm.T23.2 impl_LearnForm.B23 = true := by kernel_rfl
def impl_LearnForm.T30 : Bool × List (List Nat × List Nat) := (true, [([], []), ([0], [0]), ([1], [1]), ([2], [2]), ([2], [2]), ([4, 2], [2, 4]), ([5, 2], [2, 5]), ([3, 6, 2, 2], [2, 3, 6]), ([2], [2]), ([8, 2], [2, 8]), ([9, 7, 2], [2, 9]), ([7, 10, 2], [2, 7, 10]), ([2, 11], [2, 11]), ([0, 1, 2, 3, 4, 5, 6, 7, 8, 9, 10, 11, 12], []), ([13, 12, 10, 0, 1, 2, 3, 4, 5, 6, 7, 8, 9, 10, 11, 12], [12, 13])])
def impl_LearnForm.B30 : List Nat := [0, 1, 3, 7, 7, 23, 55, 127, 7, 263, 1023, 2047, 4095, 8191, 16383]
theorem impl_LearnForm.tab30 : rtab .any (opsOf Try.f51 30) = impl_LearnForm.T30 := by kernel_rfl
theorem impl_LearnForm.bits30 : waitsOk impl_LearnForm.T30.2 impl_LearnForm.B30 = true := by kernel_rfl
set_option maxHeartbeats 64000000 in
set_option maxRecDepth 100000 in
theorem impl_LearnForm.calls (k : Nat) (P0_ : Nat → Prop) (A0 : Option Addr) (c0 : Nat) (l0 : List (S40)) (a1_0 : Int) (a1_1 : Int) (a1_2 : Int) (r1 : Int) (r2 : Int) (r3 : Int) (r4 : Bool) (w : World) (hs0 : Kd.V k40 40 w w.heap.size (fun k_ => P0_ k_) (.slice A0 l0.length c0) l0) (h : impl_LearnForm.f k l0 a1_0 a1_1 a1_2 = some (r1, r2, r3, r4)) :
  Calls Try.prog 51 #[.slice A0 l0.length c0, .agg #[.int .i64 a1_0, .int .i64 a1_1, .int .i64 a1_2]] w fun e w' => e = .returned (.agg #[.int .i64 r1, .int .i64 r2, .int .i64 r3, .bool r4]) ∧ Below w.heap.size w w' := by
 have hu26 := Try.underlying26
 have hu85 := Try.underlying85
 have hu40 := Try.underlying40
 have hu38 := Try.underlying38
 have HO0 := ak (show Kd.V k40 40 w w.heap.size (fun k_ => (P0_ k_ ∨ w.heap.size ≤ k_)) (.slice A0 l0.length c0) l0 from Kd.V_mono hs0 (fun k_ hk => .inl hk))
 have HB := ak (Below.refl w.heap.size w)
 have H : ((impl_AreCaptures.f k l0).bind fun t249 => (if t249 = true then ((impl_IsAddress.f a1_0 a1_1 a1_2).bind fun t250 => (impl_LearnForm.j0 k l0 (!t250) a1_0 a1_1 a1_2)) else (impl_LearnForm.j0 k l0 true a1_0 a1_1 a1_2))) = some (r1, r2, r3, r4) := h
 clear h
 have HC3 := Aside0.mk H
 clear H
 go_enter Try.func51, Try.ntmps51
 go_upto_region 1 with (first | ((with_reducible refine gate_dst (N := 3) rfl ?_); refine bx_ (N := 3) #[.int .i64 a1_0, .int .i64 a1_1, .int .i64 a1_2] 26 ?_; intro gb247 hg w4 hbox hb; replace HO0 := ak (Kd.V_below (Kd.V_elderB (PV HO0) gb247 (Nat.le_of_eq hg.symm)) hb); have BK247 := ak hbox; have GW247 := gy hg HB; have GE247 := gy hg HB; replace HB := bs HB hb; clear hb hbox hg) | ((with_reducible refine gate_dst (N := 4) rfl ?_); refine bx_ (N := 4) #[.int .i64 0, .int .i64 0, .int .i64 0, .bool false] 85 ?_; intro gb248 hg w5 hbox hb; replace HO0 := ak (Kd.V_below (Kd.V_elderB (PV HO0) gb248 (Nat.le_of_eq hg.symm)) hb); have BK248 := ak hbox; have GW248 := gy hg HB; have GE248 := gy hg HB; replace HB := bs HB hb; have NB247_248 := gm hg BK247; have NB248_247 := gn hg BK247; replace BK247 := kf BK247 hb; clear hb hbox hg))
 (try simp only [Act.put, List.setIfInBounds_toArray, List.set_cons_zero, List.set_cons_succ])
 go_cut [24] (fun v24 wc => ∃ (kq : Nat) (x24_2 : Bool), v24 = .bool x24_2 ∧ Aside0 (impl_LearnForm.j0 kq l0 x24_2 a1_0 a1_1 a1_2 = some (r1, r2, r3, r4)) ∧ Aside0 (kq ≤ k) ∧ Aside0 (Kd.V k40 40 wc w.heap.size (fun k_ => (P0_ k_ ∨ w.heap.size ≤ k_) ∧ k_ ≠ gb247 ∧ k_ ≠ gb248) (.slice A0 l0.length c0) l0) ∧ Aside0 (wc.heap[gb247]? = some (.cells #[.int .i64 a1_0, .int .i64 a1_1, .int .i64 a1_2] 26 (0, 0))) ∧ Aside0 (wc.heap[gb248]? = some (.cells #[.int .i64 0, .int .i64 0, .int .i64 0, .bool false] 85 (0, 0))) ∧ Aside0 (Below w.heap.size w wc))
 case first =>
  have H := HC3.out
  clear HC3
  replace H := Option.bind_eq_some_iff.mp H
  obtain ⟨t249, A60, H⟩ := H
  replace H : (if t249 = true then ((impl_IsAddress.f a1_0 a1_1 a1_2).bind fun t250 => (impl_LearnForm.j0 k l0 (!t250) a1_0 a1_1 a1_2)) else (impl_LearnForm.j0 k l0 true a1_0 a1_1 a1_2)) = some (r1, r2, r3, r4) := H
  have A6 := Aside0.mk A60
  clear A60
  by_cases c7 : t249 = true
  ·subst c7
   have H1 : ((impl_IsAddress.f a1_0 a1_1 a1_2).bind fun t250 => (impl_LearnForm.j0 k l0 (!t250) a1_0 a1_1 a1_2)) = some (r1, r2, r3, r4) := by rw [if_pos rfl] at H; exact H
   clear H
   have H := H1
   clear H1
   replace H := Option.bind_eq_some_iff.mp H
   obtain ⟨t250, A80, H⟩ := H
   replace H : (impl_LearnForm.j0 k l0 (!t250) a1_0 a1_1 a1_2) = some (r1, r2, r3, r4) := H
   have A8 := Aside0.mk A80
   clear A80
   have H' := Aside0.mk H
   clear H
   go_wp2_with (first | ((with_reducible refine gate_callee (f := 14) rfl ?_); refine goesL_ (some 18) rfl rfl Try.func14 KR rfl #[.slice A0 l0.length c0] rfl AR ?_; (with_reducible refine (impl_AreCaptures.calls k _ _ l0 true _ ?side1 ?side2 A6.out).mono ?_); (case side1 => exact CR ((Kd.V_reads' HO0.out).2.2)); (case side2 => exact (Kd.V_reads' HO0.out).2.1); rintro e w9 ⟨rfl, hb⟩; refine ⟨_, rfl, ?_⟩; replace HO0 := Vb HO0 hb; replace BK247 := kf BK247 hb; replace BK248 := kf BK248 hb; replace HB := bs HB hb; (try clear hb); (try clear hb2); (try clear hk); (try clear hi); have hnb10 := NB247_248.out; have hnc10 := NB248_247.out; obtain ⟨hcz11_0, hcz11_1, hcz11_2, hfz11_0, hfz11_1, hfz11_2⟩ := bc3 BK247) | (go_at_call 27; (with_reducible refine (impl_IsAddress.calls a1_0 a1_1 a1_2 t250 _ A8.out).mono ?_); rintro e w12 ⟨rfl, hb⟩; replace HO0 := Vb HO0 hb; replace BK247 := kf BK247 hb; replace BK248 := kf BK248 hb; replace HB := bs HB hb; (try clear hb); (try clear hb2); (try clear hk); (try clear hi)))
   go_meet
   case rel => exact ⟨_, (!t250), (by first | rfl | (simp; done) | (simp [*]; done)), H', ⟨by first | omega | exact Nat.le_refl _⟩, ⟨VX HO0.out (fun _ hk => ⟨hk.1.1, ⟨hk.1.2, hk.2⟩⟩)⟩, ⟨PK BK247⟩, ⟨PK BK248⟩, ⟨PB⟩⟩
  ·replace c7 := Bool.eq_false_iff.mpr c7
   subst c7
   have H1 : (impl_LearnForm.j0 k l0 true a1_0 a1_1 a1_2) = some (r1, r2, r3, r4) := by rw [if_neg (show ¬ (false = true) by decide)] at H; exact H
   clear H
   have H := H1
   clear H1
   have H' := Aside0.mk H
   clear H
   go_wp2_with (first | ((with_reducible refine gate_callee (f := 14) rfl ?_); refine goesL_ (some 18) rfl rfl Try.func14 KR rfl #[.slice A0 l0.length c0] rfl AR ?_; (with_reducible refine (impl_AreCaptures.calls k _ _ l0 false _ ?side1 ?side2 A6.out).mono ?_); (case side1 => exact CR ((Kd.V_reads' HO0.out).2.2)); (case side2 => exact (Kd.V_reads' HO0.out).2.1); rintro e w13 ⟨rfl, hb⟩; refine ⟨_, rfl, ?_⟩; replace HO0 := Vb HO0 hb; replace BK247 := kf BK247 hb; replace BK248 := kf BK248 hb; replace HB := bs HB hb; (try clear hb); (try clear hb2); (try clear hk); (try clear hi)))
   go_meet
   case rel => exact ⟨_, (true), (by first | rfl | (simp; done) | (simp [*]; done)), H', ⟨by first | omega | exact Nat.le_refl _⟩, ⟨VX HO0.out (fun _ hk => ⟨hk.1.1, ⟨hk.1.2, hk.2⟩⟩)⟩, ⟨PK BK247⟩, ⟨PK BK248⟩, ⟨PB⟩⟩
 case rest =>
  clear HC3
  (try clear c1); (try clear p2); (try clear c5); (try clear c7); (try clear c10); (try clear hcz11_0); (try clear hcz11_1); (try clear hcz11_2); (try clear hfz11_0); (try clear hfz11_1); (try clear hfz11_2)
  obtain ⟨kq, x24_2, rfl, HA, HJ2, HO_0, BK247, BK248, HB⟩ := hcut
  cases kq with
  | zero => exact absurd HA.out (by simp [impl_LearnForm.j0])
  | succ kj2 =>
   have H := HA.out
   clear HA
   simp only [impl_LearnForm.j0] at H
   by_cases c14 : x24_2 = true
   ·subst c14
    have H1 : (some (0, 0, 0, false)) = some (r1, r2, r3, r4) := by rw [if_pos rfl] at H; exact H
    clear H
    have H := H1
    clear H1
    simp only [Option.some.injEq, Prod.mk.injEq] at H
    obtain ⟨rfl, rfl, rfl, rfl⟩ := H
    have hnb15 := NB248_247.out
    have hnc15 := NB247_248.out
    obtain ⟨hcz16_0, hcz16_1, hcz16_2, hcz16_3, hfz16_0, hfz16_1, hfz16_2, hfz16_3⟩ := bc4 BK248
    go_wp2
    refine bodyPost_ret (results_cell_row rfl _ _ gb248 85 #[.int .i64 0, .int .i64 0, .int .i64 0, .bool false] (0, 0) _ rfl (PX BK248) Try.underlying85 rfl KR) rfl ?_
    exact ⟨RT, PB⟩
   ·replace c14 := Bool.eq_false_iff.mpr c14
    subst c14
    have H1 : (impl_LearnForm.l0 kj2 ([] : List (S40)) l0 (l0.length : Int) 0 a1_0 a1_1 a1_2) = some (r1, r2, r3, r4) := by rw [if_neg (show ¬ (false = true) by decide)] at H; exact H
    clear H
    have H := H1
    clear H1
    have H' := Aside0.mk H
    clear H
    go_wp2
    go_loopg [5, 28] kj2 (fun kq v5 v28 w' => ∃ (x5_2 : List (S40)) (x28_2 : Int), v28 = .int .i64 x28_2 ∧ Aside0 (impl_LearnForm.l0 kq x5_2 l0 (l0.length : Int) x28_2 a1_0 a1_1 a1_2 = some (r1, r2, r3, r4)) ∧ Aside0 (kq ≤ kj2) ∧ Aside0 (Kd.N k40 40 w' w.heap.size (fun k_ => (P0_ k_ ∨ w.heap.size ≤ k_) ∧ k_ ≠ gb247 ∧ k_ ≠ gb248) v5 x5_2) ∧ Aside0 (Kd.V k40 40 w' w.heap.size (fun k_ => (P0_ k_ ∨ w.heap.size ≤ k_) ∧ some k_ ≠ (v5 : Value).ownBlock ∧ k_ ≠ gb247 ∧ k_ ≠ gb248) (.slice A0 l0.length c0) l0) ∧ Aside0 (w'.heap[gb247]? = some (.cells #[.int .i64 a1_0, .int .i64 a1_1, .int .i64 a1_2] 26 (0, 0))) ∧ Aside0 (w'.heap[gb248]? = some (.cells #[.int .i64 0, .int .i64 0, .int .i64 0, .bool false] 85 (0, 0))) ∧ Aside0 (Below w.heap.size w w'))
    case atStart => exact ⟨(([] : List (S40))), (0), (by first | rfl | (simp; done) | (simp [*]; done)), H', ⟨Nat.le_refl _⟩, ⟨by first | exact Kd.S_nil _ _ _ _ _ | exact Kd.N_nil _ _ _ _ _ | exact Kd.V_nil _ _ _ _ _ | exact Kd.Q_nil _ _ _ _ _ | exact Kd.R_nil _ _ _ _ _⟩, ⟨VX HO_0.out (fun _ hk => ⟨hk.1, ⟨(by simp [Value.ownBlock]), ⟨hk.2.1, hk.2.2⟩⟩⟩)⟩, ⟨PK BK247⟩, ⟨PK BK248⟩, ⟨PB⟩⟩
    case round =>
     clear H'
     (try clear c1); (try clear p2); (try clear c5); (try clear c7); (try clear c10); (try clear c14); (try clear c15); (try clear hcz11_0); (try clear hcz11_1); (try clear hcz11_2); (try clear hcz16_0); (try clear hcz16_1); (try clear hcz16_2); (try clear hcz16_3); (try clear hfz11_0); (try clear hfz11_1); (try clear hfz11_2); (try clear hfz16_0); (try clear hfz16_1); (try clear hfz16_2); (try clear hfz16_3); (try clear p2)
     obtain ⟨x5_2, x28_2, rfl, HA, HK2, HO_5, HO_26, BK247, BK248, HB⟩ := hrel
     cases gk with
     | zero => exact absurd HA.out (by simp [impl_LearnForm.l0])
     | succ k2 =>
      have H := HA.out
      clear HA
      simp only [impl_LearnForm.l0] at H
      by_cases c17 : x28_2 < (l0.length : Int)
      ·rw [if_pos c17] at H
       have c17b0 : decide (x28_2 < (l0.length : Int)) = true := decide_eq_true c17
       clear c17
       by_cases c18 : 0 ≤ x28_2
       ·rw [if_pos c18] at H
        have c18b0 : decide (0 ≤ x28_2) = true := decide_eq_true c18
        clear c18
        by_cases c19 : x28_2 < (l0.length : Int)
        ·rw [if_pos c19] at H
         have c19b0 : decide (x28_2 < (l0.length : Int)) = true := decide_eq_true c19
         clear c19
         replace H := Option.bind_eq_some_iff.mp H
         obtain ⟨t253, A200, H⟩ := H
         replace H : (if t253 = true then ((impl_hasBody.f ((rd_T40 l0 x28_2).f2.f0)).bind fun t254 => (if t254 = true then (if x5_2.length < 1599289640401 then (impl_LearnForm.l0 k2 (x5_2 ++ [(⟨(⟨(rd_T40 l0 x28_2).f0.f0, (rd_T40 l0 x28_2).f0.f1, (rd_T40 l0 x28_2).f0.f2⟩ : S26), (rd_T40 l0 x28_2).f1, (⟨(rd_T40 l0 x28_2).f2.f0, (rd_T40 l0 x28_2).f2.f1, (⟨(rd_T40 l0 x28_2).f2.f2.f0, (rd_T40 l0 x28_2).f2.f2.f1, (rd_T40 l0 x28_2).f2.f2.f2⟩ : S26)⟩ : S38)⟩ : S40)]) l0 (l0.length : Int) (wrap64 (x28_2 + 1)) a1_0 a1_1 a1_2) else (none)) else (impl_LearnForm.l0 k2 x5_2 l0 (l0.length : Int) (wrap64 (x28_2 + 1)) a1_0 a1_1 a1_2))) else (impl_LearnForm.l0 k2 x5_2 l0 (l0.length : Int) (wrap64 (x28_2 + 1)) a1_0 a1_1 a1_2)) = some (r1, r2, r3, r4) := H
         have A20 := Aside0.mk A200
         clear A200
         by_cases c21 : t253 = true
         ·subst c21
          have H1 : ((impl_hasBody.f ((rd_T40 l0 x28_2).f2.f0)).bind fun t254 => (if t254 = true then (if x5_2.length < 1599289640401 then (impl_LearnForm.l0 k2 (x5_2 ++ [(⟨(⟨(rd_T40 l0 x28_2).f0.f0, (rd_T40 l0 x28_2).f0.f1, (rd_T40 l0 x28_2).f0.f2⟩ : S26), (rd_T40 l0 x28_2).f1, (⟨(rd_T40 l0 x28_2).f2.f0, (rd_T40 l0 x28_2).f2.f1, (⟨(rd_T40 l0 x28_2).f2.f2.f0, (rd_T40 l0 x28_2).f2.f2.f1, (rd_T40 l0 x28_2).f2.f2.f2⟩ : S26)⟩ : S38)⟩ : S40)]) l0 (l0.length : Int) (wrap64 (x28_2 + 1)) a1_0 a1_1 a1_2) else (none)) else (impl_LearnForm.l0 k2 x5_2 l0 (l0.length : Int) (wrap64 (x28_2 + 1)) a1_0 a1_1 a1_2))) = some (r1, r2, r3, r4) := by rw [if_pos rfl] at H; exact H
          clear H
          have H := H1
          clear H1
          replace H := Option.bind_eq_some_iff.mp H
          obtain ⟨t254, A220, H⟩ := H
          replace H : (if t254 = true then (if x5_2.length < 1599289640401 then (impl_LearnForm.l0 k2 (x5_2 ++ [(⟨(⟨(rd_T40 l0 x28_2).f0.f0, (rd_T40 l0 x28_2).f0.f1, (rd_T40 l0 x28_2).f0.f2⟩ : S26), (rd_T40 l0 x28_2).f1, (⟨(rd_T40 l0 x28_2).f2.f0, (rd_T40 l0 x28_2).f2.f1, (⟨(rd_T40 l0 x28_2).f2.f2.f0, (rd_T40 l0 x28_2).f2.f2.f1, (rd_T40 l0 x28_2).f2.f2.f2⟩ : S26)⟩ : S38)⟩ : S40)]) l0 (l0.length : Int) (wrap64 (x28_2 + 1)) a1_0 a1_1 a1_2) else (none)) else (impl_LearnForm.l0 k2 x5_2 l0 (l0.length : Int) (wrap64 (x28_2 + 1)) a1_0 a1_1 a1_2)) = some (r1, r2, r3, r4) := H
          have A22 := Aside0.mk A220
          clear A220
          by_cases c23 : t254 = true
          ·subst c23
           have H1 : (if x5_2.length < 1599289640401 then (impl_LearnForm.l0 k2 (x5_2 ++ [(⟨(⟨(rd_T40 l0 x28_2).f0.f0, (rd_T40 l0 x28_2).f0.f1, (rd_T40 l0 x28_2).f0.f2⟩ : S26), (rd_T40 l0 x28_2).f1, (⟨(rd_T40 l0 x28_2).f2.f0, (rd_T40 l0 x28_2).f2.f1, (⟨(rd_T40 l0 x28_2).f2.f2.f0, (rd_T40 l0 x28_2).f2.f2.f1, (rd_T40 l0 x28_2).f2.f2.f2⟩ : S26)⟩ : S38)⟩ : S40)]) l0 (l0.length : Int) (wrap64 (x28_2 + 1)) a1_0 a1_1 a1_2) else (none)) = some (r1, r2, r3, r4) := by rw [if_pos rfl] at H; exact H
           clear H
           have H := H1
           clear H1
           by_cases c24 : x5_2.length < 1599289640401
           ·rw [if_pos c24] at H
            have LMc24 := Aside0.mk c24
            clear c24
            obtain ⟨y255, hy255⟩ : ∃ y_ : List (S40), y_ = (x5_2 ++ [(⟨(⟨(rd_T40 l0 x28_2).f0.f0, (rd_T40 l0 x28_2).f0.f1, (rd_T40 l0 x28_2).f0.f2⟩ : S26), (rd_T40 l0 x28_2).f1, (⟨(rd_T40 l0 x28_2).f2.f0, (rd_T40 l0 x28_2).f2.f1, (⟨(rd_T40 l0 x28_2).f2.f2.f0, (rd_T40 l0 x28_2).f2.f2.f1, (rd_T40 l0 x28_2).f2.f2.f2⟩ : S26)⟩ : S38)⟩ : S40)]) := ⟨_, rfl⟩
            replace H : (impl_LearnForm.l0 k2 y255 l0 (l0.length : Int) (wrap64 (x28_2 + 1)) a1_0 a1_1 a1_2) = some (r1, r2, r3, r4) := by first | (rw [hy255]; with_reducible exact H) | (have H2_ := (Option.bind_some _ _).symm.trans H; rw [hy255]; with_reducible exact H2_) | (have H2_ := (Option.bind_some _ _).symm.trans H; with_reducible exact H2_) | with_reducible exact H | (rw [hy255]; exact H) | exact H
            have Ny255 := Aside0.mk hy255
            clear hy255
            have H' := Aside0.mk H
            clear H
            have p251 : 0 ≤ (x28_2 : Int) := of_decide_eq_true (by first | (with_reducible assumption) | assumption)
            have q251 : x28_2 < (l0.length : Int) := of_decide_eq_true (by first | (with_reducible assumption) | assumption)
            obtain ⟨ad251, A251_5, c251_5, e251, hx251_0, hx251_1, hx251_2, hx251_3, hx251_4, hx251_5, hx251_6, hx251_7, hx251_8, hl251_5, hi251_5⟩ := at_T40 (Kd.V_reads' HO_26.out).2.2 x28_2 p251 q251
            cases e251
            obtain ⟨ce251, hce251, hMe251, hcc251⟩ := Kd.V_get HO_26.out z40 x28_2 p251 (by first | exact q251 | exact of_decide_eq_true (by first | (with_reducible assumption) | assumption) | (have e_ := (Kd.V_reads' HO_26.out).1; omega))
            obtain ⟨ua251_5, uc251_5, rfl, ul251_5, ge251_5⟩ := k40_openF hMe251
            have hv251_5 := hcc251 5 _ rfl
            rw [add_field _ _ 5 (by omega)] at hv251_5
            replace hv251_5 := Option.some.inj (hv251_5.symm.trans hx251_5)
            injection hv251_5 with hva_ hvn_ hvc_
            rw [hva_] at ge251_5
            rw [hvc_] at ul251_5
            have HL251_5 := ak (show Kd.V (Kd.int .i64) 3 _ w.heap.size _ _ ((rd_T40 l0 x28_2).f2.f1) from Kd.V_mk ul251_5 ge251_5)
            clear hva_ hvn_ hvc_ ge251_5 ul251_5
            clear hcc251 hce251
            have HR251_5 := Aside0.mk hi251_5
            have HC251_5 := Aside0.mk hl251_5
            clear hi251_5 hl251_5
            replace p251 := eq_true p251
            replace q251 := eq_true q251
            go_wp2_with (first | ((with_reducible refine gate_dst (N := 7) rfl ?_); refine bx_ (N := 7) #[.int .i64 0, .int .i64 0, .int .i64 0, .int .i64 0, .int .i64 0, .slice none 0 0, .int .i64 0, .int .i64 0, .int .i64 0] 40 ?_; intro gb252 hg w25 hbox hb; replace HO_5 := ak (Kd.N_below (Kd.N_elderB (PN HO_5) gb252 (Nat.le_of_eq hg.symm)) hb); replace HO_26 := ak (Kd.V_below (Kd.V_elderB (PV HO_26) gb252 (Nat.le_of_eq hg.symm)) hb); replace HL251_5 := ak (Kd.V_below (Kd.V_elderB (PV HL251_5) gb252 (Nat.le_of_eq hg.symm)) hb); replace HR251_5 := Cb HR251_5 hb; have BK252 := ak hbox; have GW252 := gy hg HB; have GE252 := gy hg HB; replace HB := bs HB hb; have NB247_252 := gm hg BK247; have NB252_247 := gn hg BK247; replace BK247 := kf BK247 hb; have NB248_252 := gm hg BK248; have NB252_248 := gn hg BK248; replace BK248 := kf BK248 hb; clear hb hbox hg; have hnb26 := NB252_247.out; have hnc26 := NB247_252.out; have hnb27 := NB252_248.out; have hnc27 := NB248_252.out; obtain ⟨hcz28_0, hcz28_1, hcz28_2, hcz28_3, hcz28_4, hcz28_5, hcz28_6, hcz28_7, hcz28_8, hfz28_0, hfz28_1, hfz28_2, hfz28_3, hfz28_4, hfz28_5, hfz28_6, hfz28_7, hfz28_8⟩ := bc9 BK252; have hnb29 := NB247_248.out; have hnc29 := NB248_247.out; obtain ⟨hcz30_0, hcz30_1, hcz30_2, hfz30_0, hfz30_1, hfz30_2⟩ := bc3 BK247) | ((with_reducible refine gate_callee (f := 115) rfl ?_); refine goesL_ (some 34) rfl rfl Try.func115 KR rfl #[.agg #[.int .i64 ((rd_T40 l0 x28_2).f0.f0), .int .i64 ((rd_T40 l0 x28_2).f0.f1), .int .i64 ((rd_T40 l0 x28_2).f0.f2), .int .i64 ((rd_T40 l0 x28_2).f1), .int .i64 ((rd_T40 l0 x28_2).f2.f0), .slice A251_5 ((rd_T40 l0 x28_2).f2.f1).length c251_5, .int .i64 ((rd_T40 l0 x28_2).f2.f2.f0), .int .i64 ((rd_T40 l0 x28_2).f2.f2.f1), .int .i64 ((rd_T40 l0 x28_2).f2.f2.f2)], .agg #[.int .i64 a1_0, .int .i64 a1_1, .int .i64 a1_2]] rfl AR ?_; (with_reducible refine (impl_sameForm.calls ((rd_T40 l0 x28_2).f0.f0) ((rd_T40 l0 x28_2).f0.f1) ((rd_T40 l0 x28_2).f0.f2) ((rd_T40 l0 x28_2).f1) ((rd_T40 l0 x28_2).f2.f0) _ _ ((rd_T40 l0 x28_2).f2.f1) ((rd_T40 l0 x28_2).f2.f2.f0) ((rd_T40 l0 x28_2).f2.f2.f1) ((rd_T40 l0 x28_2).f2.f2.f2) a1_0 a1_1 a1_2 true _ ?side1 ?side2 A20.out).mono ?_); (case side1 => repeat (first | exact ((Kd.V_reads' (VX (Kd.V_mono HL251_5.out (fun k_ hk => (⟨hk, hk.2⟩ : _ ∧ k_ ≠ gb252))) (fun _ h_ => h_.1))).2.2) | (with_reducible refine Kd.C_alloc ?_ _) | (with_reducible refine Kd.C_drewN ?_ _) | (with_reducible refine Kd.C_drew ?_))); (case side2 => exact HC251_5.out); rintro e w31 ⟨rfl, hb⟩; refine ⟨_, rfl, ?_⟩; replace HO_5 := ak (Kd.N_below (NX (Kd.N_mono HO_5.out (fun k_ hk => (⟨hk, hk.2⟩ : _ ∧ k_ ≠ gb252))) (fun _ h_ => h_.1)) hb); replace HO_26 := ak (Kd.V_below (VX (Kd.V_mono HO_26.out (fun k_ hk => (⟨hk, hk.2⟩ : _ ∧ k_ ≠ gb252))) (fun _ h_ => h_.1)) hb); replace BK247 := kf BK247 hb; replace BK248 := kf BK248 hb; replace HR251_5 := ak (Kd.C_below ((Kd.V_reads' (VX (Kd.V_mono HL251_5.out (fun k_ hk => (⟨hk, hk.2⟩ : _ ∧ k_ ≠ gb252))) (fun _ h_ => h_.1))).2.2) hb); replace HL251_5 := ak (Kd.V_below (VX (Kd.V_mono HL251_5.out (fun k_ hk => (⟨hk, hk.2⟩ : _ ∧ k_ ≠ gb252))) (fun _ h_ => h_.1)) hb); replace BK252 := kp (cs' := #[.int .i64 ((rd_T40 l0 x28_2).f0.f0), .int .i64 ((rd_T40 l0 x28_2).f0.f1), .int .i64 ((rd_T40 l0 x28_2).f0.f2), .int .i64 ((rd_T40 l0 x28_2).f1), .int .i64 ((rd_T40 l0 x28_2).f2.f0), .slice A251_5 ((rd_T40 l0 x28_2).f2.f1).length c251_5, .int .i64 ((rd_T40 l0 x28_2).f2.f2.f0), .int .i64 ((rd_T40 l0 x28_2).f2.f2.f1), .int .i64 ((rd_T40 l0 x28_2).f2.f2.f2)]) BK252 hb; replace HB := bs HB hb; (try clear hb); (try clear hb2); (try clear hk); (try clear hi); obtain ⟨hcz32_0, hcz32_1, hcz32_2, hcz32_3, hcz32_4, hcz32_5, hcz32_6, hcz32_7, hcz32_8, hfz32_0, hfz32_1, hfz32_2, hfz32_3, hfz32_4, hfz32_5, hfz32_6, hfz32_7, hfz32_8⟩ := bc9 BK252) | (go_at_call 95; (with_reducible refine (impl_hasBody.calls ((rd_T40 l0 x28_2).f2.f0) true _ A22.out).mono ?_); rintro e w' ⟨rfl, ⟨nd, rfl⟩⟩) | ((with_reducible refine gate_builtin (b := .append) (xs := #[.tmp 41, .tmp 43]) rfl ?_); at_builtin; refine Kd.N_append k40 (w0 := w) w.heap.size rfl (.tmp 41) (.tmp 43) 24 40 (.agg #[(.int .i64 0), (.int .i64 0), (.int .i64 0), (.int .i64 0), (.int .i64 0), (.slice none 0 0), (.int .i64 0), (.int .i64 0), (.int .i64 0)]) 88 rfl Try.underlying24 info40 rfl (by decide) (by omega) u5 x5_2 (⟨(⟨(rd_T40 l0 x28_2).f0.f0, (rd_T40 l0 x28_2).f0.f1, (rd_T40 l0 x28_2).f0.f2⟩ : S26), (rd_T40 l0 x28_2).f1, (⟨(rd_T40 l0 x28_2).f2.f0, (rd_T40 l0 x28_2).f2.f1, (⟨(rd_T40 l0 x28_2).f2.f2.f0, (rd_T40 l0 x28_2).f2.f2.f1, (rd_T40 l0 x28_2).f2.f2.f2⟩ : S26)⟩ : S38)⟩ : S40) [.int .i64 ((rd_T40 l0 x28_2).f0.f0), .int .i64 ((rd_T40 l0 x28_2).f0.f1), .int .i64 ((rd_T40 l0 x28_2).f0.f2), .int .i64 ((rd_T40 l0 x28_2).f1), .int .i64 ((rd_T40 l0 x28_2).f2.f0), .slice A251_5 ((rd_T40 l0 x28_2).f2.f1).length c251_5, .int .i64 ((rd_T40 l0 x28_2).f2.f2.f0), .int .i64 ((rd_T40 l0 x28_2).f2.f2.f1), .int .i64 ((rd_T40 l0 x28_2).f2.f2.f2)] (fun k_ => (P0_ k_ ∨ w.heap.size ≤ k_) ∧ k_ ≠ gb247 ∧ k_ ≠ gb248 ∧ k_ ≠ gb252) (fun k_ => ((fun k_ => (P0_ k_ ∨ w.heap.size ≤ k_) ∧ k_ ≠ gb247 ∧ k_ ≠ gb248 ∧ k_ ≠ gb252)) k_ ∧ some k_ ≠ (u5 : Value).ownBlock) rfl rfl ?aP (fun _ hk => hk) ?aF ?aO ?aB ?aS ?aL ?_; (case aP => first | exact (k40_mkF _ _ (⟨(⟨(rd_T40 l0 x28_2).f0.f0, (rd_T40 l0 x28_2).f0.f1, (rd_T40 l0 x28_2).f0.f2⟩ : S26), (rd_T40 l0 x28_2).f1, (⟨(rd_T40 l0 x28_2).f2.f0, (rd_T40 l0 x28_2).f2.f1, (⟨(rd_T40 l0 x28_2).f2.f2.f0, (rd_T40 l0 x28_2).f2.f2.f1, (rd_T40 l0 x28_2).f2.f2.f2⟩ : S26)⟩ : S38)⟩ : S40) (Kd.V_reads' (Kd.V_mono (ok' := (fun k_ => ((fun k_ => (P0_ k_ ∨ w.heap.size ≤ k_) ∧ k_ ≠ gb247 ∧ k_ ≠ gb248 ∧ k_ ≠ gb252)) k_ ∧ some k_ ≠ (u5 : Value).ownBlock)) (HL251_5.out) (fun k_ hk => ⟨⟨hk.1.1, ⟨hk.1.2.2.1, ⟨hk.1.2.2.2, hk.2⟩⟩⟩, hk.1.2.1⟩))).2.1 (Kd.V_F (Kd.V_mono (ok' := (fun k_ => ((fun k_ => (P0_ k_ ∨ w.heap.size ≤ k_) ∧ k_ ≠ gb247 ∧ k_ ≠ gb248 ∧ k_ ≠ gb252)) k_ ∧ some k_ ≠ (u5 : Value).ownBlock)) (HL251_5.out) (fun k_ hk => ⟨⟨hk.1.1, ⟨hk.1.2.2.1, ⟨hk.1.2.2.2, hk.2⟩⟩⟩, hk.1.2.1⟩)))) | (have z1_ := (Kd.V_mono (ok' := (fun k_ => ((fun k_ => (P0_ k_ ∨ w.heap.size ≤ k_) ∧ k_ ≠ gb247 ∧ k_ ≠ gb248 ∧ k_ ≠ gb252)) k_ ∧ some k_ ≠ (u5 : Value).ownBlock)) (Kd.V_drewN HL251_5.out nd) (fun k_ hk => ⟨⟨hk.1.1, ⟨hk.1.2.2.1, ⟨hk.1.2.2.2, hk.2⟩⟩⟩, hk.1.2.1⟩)); exact k40_mkF _ _ (⟨(⟨(rd_T40 l0 x28_2).f0.f0, (rd_T40 l0 x28_2).f0.f1, (rd_T40 l0 x28_2).f0.f2⟩ : S26), (rd_T40 l0 x28_2).f1, (⟨(rd_T40 l0 x28_2).f2.f0, (rd_T40 l0 x28_2).f2.f1, (⟨(rd_T40 l0 x28_2).f2.f2.f0, (rd_T40 l0 x28_2).f2.f2.f1, (rd_T40 l0 x28_2).f2.f2.f2⟩ : S26)⟩ : S38)⟩ : S40) (Kd.V_reads' z1_).2.1 (Kd.V_F z1_))); (case aB => exact PB); (case aF => exact (fun k_ hk => ⟨(.inr (Nat.le_trans (below_size PB) hk)), Kd.freshB (g := gb247) (o := .cells #[.int .i64 a1_0, .int .i64 a1_1, .int .i64 a1_2] 26 (0, 0)) (PK BK247) k_ hk, Kd.freshB (g := gb248) (o := .cells #[.int .i64 0, .int .i64 0, .int .i64 0, .bool false] 85 (0, 0)) (PK BK248) k_ hk, Kd.freshB (g := gb252) (o := .cells #[.int .i64 ((rd_T40 l0 x28_2).f0.f0), .int .i64 ((rd_T40 l0 x28_2).f0.f1), .int .i64 ((rd_T40 l0 x28_2).f0.f2), .int .i64 ((rd_T40 l0 x28_2).f1), .int .i64 ((rd_T40 l0 x28_2).f2.f0), .slice A251_5 ((rd_T40 l0 x28_2).f2.f1).length c251_5, .int .i64 ((rd_T40 l0 x28_2).f2.f2.f0), .int .i64 ((rd_T40 l0 x28_2).f2.f2.f1), .int .i64 ((rd_T40 l0 x28_2).f2.f2.f2)] 40 (0, 0)) (PK BK252) k_ hk⟩)); (case aO => exact (NX HO_5.out (fun _ hk => ⟨hk.1.1, ⟨hk.1.2.1, ⟨hk.1.2.2, hk.2⟩⟩⟩))); (case aS => exact (below_size PB)); (case aL => have := LMc24.out; omega); intro v256 w33 ho hb hg hat; rw [← Ny255.out] at ho; replace HO_26 := ak (Kd.V_afterv (ok := (fun k_ => (P0_ k_ ∨ w.heap.size ≤ k_) ∧ k_ ≠ gb247 ∧ k_ ≠ gb248 ∧ k_ ≠ gb252)) (VX HO_26.out (fun _ hk => ⟨⟨hk.1.1, ⟨hk.1.2.2.1, ⟨hk.1.2.2.2, hk.2⟩⟩⟩, hk.1.2.1⟩)) hg hat); replace BK247 := ak (blk_grown (g := gb247) (o := .cells #[.int .i64 a1_0, .int .i64 a1_1, .int .i64 a1_2] 26 (0, 0)) (PK BK247) hg (Kd.N_ne HO_5.out BK247.out (by decide))); replace BK248 := ak (blk_grown (g := gb248) (o := .cells #[.int .i64 0, .int .i64 0, .int .i64 0, .bool false] 85 (0, 0)) (PK BK248) hg (Kd.N_ne HO_5.out BK248.out (by decide))); replace HL251_5 := ak (Kd.V_afterv (ok := (fun k_ => (P0_ k_ ∨ w.heap.size ≤ k_) ∧ k_ ≠ gb247 ∧ k_ ≠ gb248 ∧ k_ ≠ gb252)) (VX HL251_5.out (fun _ hk => ⟨⟨hk.1.1, ⟨hk.1.2.2.1, ⟨hk.1.2.2.2, hk.2⟩⟩⟩, hk.1.2.1⟩)) hg hat); replace BK252 := ak (blk_grown (g := gb252) (o := .cells #[.int .i64 ((rd_T40 l0 x28_2).f0.f0), .int .i64 ((rd_T40 l0 x28_2).f0.f1), .int .i64 ((rd_T40 l0 x28_2).f0.f2), .int .i64 ((rd_T40 l0 x28_2).f1), .int .i64 ((rd_T40 l0 x28_2).f2.f0), .slice A251_5 ((rd_T40 l0 x28_2).f2.f1).length c251_5, .int .i64 ((rd_T40 l0 x28_2).f2.f2.f0), .int .i64 ((rd_T40 l0 x28_2).f2.f2.f1), .int .i64 ((rd_T40 l0 x28_2).f2.f2.f2)] 40 (0, 0)) (PK BK252) hg (Kd.N_away HO_5.out FK)); replace HB := ak hb; have HO257 := ak (ho); clear HO_5; clear ho hb hg hat))
            go_roundg k2
            case measure => have := HJ2.out; have := HK2.out; omega
            case rel => exact ⟨(y255), (wrap64 (x28_2 + 1)), (by first | rfl | (simp; done) | (simp [*]; done)), H', ⟨by have := HJ2.out; have := HK2.out; omega⟩, ⟨NX HO257.out (fun _ hk => ⟨hk.1, ⟨hk.2.1, hk.2.2.1⟩⟩)⟩, ⟨VX HO_26.out (fun _ hk => ⟨hk.1.1, ⟨hk.2, ⟨hk.1.2.1, hk.1.2.2.1⟩⟩⟩)⟩, ⟨PK BK247⟩, ⟨PK BK248⟩, ⟨PB⟩⟩
           ·rw [if_neg c24] at H
            exact absurd H (by simp)
          ·replace c23 := Bool.eq_false_iff.mpr c23
           subst c23
           have H1 : (impl_LearnForm.l0 k2 x5_2 l0 (l0.length : Int) (wrap64 (x28_2 + 1)) a1_0 a1_1 a1_2) = some (r1, r2, r3, r4) := by rw [if_neg (show ¬ (false = true) by decide)] at H; exact H
           clear H
           have H := H1
           clear H1
           have H' := Aside0.mk H
           clear H
           have p251 : 0 ≤ (x28_2 : Int) := of_decide_eq_true (by first | (with_reducible assumption) | assumption)
           have q251 : x28_2 < (l0.length : Int) := of_decide_eq_true (by first | (with_reducible assumption) | assumption)
           obtain ⟨ad251, A251_5, c251_5, e251, hx251_0, hx251_1, hx251_2, hx251_3, hx251_4, hx251_5, hx251_6, hx251_7, hx251_8, hl251_5, hi251_5⟩ := at_T40 (Kd.V_reads' HO_26.out).2.2 x28_2 p251 q251
           cases e251
           obtain ⟨ce251, hce251, hMe251, hcc251⟩ := Kd.V_get HO_26.out z40 x28_2 p251 (by first | exact q251 | exact of_decide_eq_true (by first | (with_reducible assumption) | assumption) | (have e_ := (Kd.V_reads' HO_26.out).1; omega))
           obtain ⟨ua251_5, uc251_5, rfl, ul251_5, ge251_5⟩ := k40_openF hMe251
           have hv251_5 := hcc251 5 _ rfl
           rw [add_field _ _ 5 (by omega)] at hv251_5
           replace hv251_5 := Option.some.inj (hv251_5.symm.trans hx251_5)
           injection hv251_5 with hva_ hvn_ hvc_
           rw [hva_] at ge251_5
           rw [hvc_] at ul251_5
           have HL251_5 := ak (show Kd.V (Kd.int .i64) 3 _ w.heap.size _ _ ((rd_T40 l0 x28_2).f2.f1) from Kd.V_mk ul251_5 ge251_5)
           clear hva_ hvn_ hvc_ ge251_5 ul251_5
           clear hcc251 hce251
           have HR251_5 := Aside0.mk hi251_5
           have HC251_5 := Aside0.mk hl251_5
           clear hi251_5 hl251_5
           replace p251 := eq_true p251
           replace q251 := eq_true q251
           go_wp2_with (first | ((with_reducible refine gate_dst (N := 7) rfl ?_); refine bx_ (N := 7) #[.int .i64 0, .int .i64 0, .int .i64 0, .int .i64 0, .int .i64 0, .slice none 0 0, .int .i64 0, .int .i64 0, .int .i64 0] 40 ?_; intro gb252 hg w34 hbox hb; replace HO_5 := ak (Kd.N_below (Kd.N_elderB (PN HO_5) gb252 (Nat.le_of_eq hg.symm)) hb); replace HO_26 := ak (Kd.V_below (Kd.V_elderB (PV HO_26) gb252 (Nat.le_of_eq hg.symm)) hb); replace HL251_5 := ak (Kd.V_below (Kd.V_elderB (PV HL251_5) gb252 (Nat.le_of_eq hg.symm)) hb); replace HR251_5 := Cb HR251_5 hb; have BK252 := ak hbox; have GW252 := gy hg HB; have GE252 := gy hg HB; replace HB := bs HB hb; have NB247_252 := gm hg BK247; have NB252_247 := gn hg BK247; replace BK247 := kf BK247 hb; have NB248_252 := gm hg BK248; have NB252_248 := gn hg BK248; replace BK248 := kf BK248 hb; clear hb hbox hg; have hnb35 := NB252_247.out; have hnc35 := NB247_252.out; have hnb36 := NB252_248.out; have hnc36 := NB248_252.out; obtain ⟨hcz37_0, hcz37_1, hcz37_2, hcz37_3, hcz37_4, hcz37_5, hcz37_6, hcz37_7, hcz37_8, hfz37_0, hfz37_1, hfz37_2, hfz37_3, hfz37_4, hfz37_5, hfz37_6, hfz37_7, hfz37_8⟩ := bc9 BK252; have hnb38 := NB247_248.out; have hnc38 := NB248_247.out; obtain ⟨hcz39_0, hcz39_1, hcz39_2, hfz39_0, hfz39_1, hfz39_2⟩ := bc3 BK247) | ((with_reducible refine gate_callee (f := 115) rfl ?_); refine goesL_ (some 34) rfl rfl Try.func115 KR rfl #[.agg #[.int .i64 ((rd_T40 l0 x28_2).f0.f0), .int .i64 ((rd_T40 l0 x28_2).f0.f1), .int .i64 ((rd_T40 l0 x28_2).f0.f2), .int .i64 ((rd_T40 l0 x28_2).f1), .int .i64 ((rd_T40 l0 x28_2).f2.f0), .slice A251_5 ((rd_T40 l0 x28_2).f2.f1).length c251_5, .int .i64 ((rd_T40 l0 x28_2).f2.f2.f0), .int .i64 ((rd_T40 l0 x28_2).f2.f2.f1), .int .i64 ((rd_T40 l0 x28_2).f2.f2.f2)], .agg #[.int .i64 a1_0, .int .i64 a1_1, .int .i64 a1_2]] rfl AR ?_; (with_reducible refine (impl_sameForm.calls ((rd_T40 l0 x28_2).f0.f0) ((rd_T40 l0 x28_2).f0.f1) ((rd_T40 l0 x28_2).f0.f2) ((rd_T40 l0 x28_2).f1) ((rd_T40 l0 x28_2).f2.f0) _ _ ((rd_T40 l0 x28_2).f2.f1) ((rd_T40 l0 x28_2).f2.f2.f0) ((rd_T40 l0 x28_2).f2.f2.f1) ((rd_T40 l0 x28_2).f2.f2.f2) a1_0 a1_1 a1_2 true _ ?side1 ?side2 A20.out).mono ?_); (case side1 => repeat (first | exact ((Kd.V_reads' (VX (Kd.V_mono HL251_5.out (fun k_ hk => (⟨hk, hk.2⟩ : _ ∧ k_ ≠ gb252))) (fun _ h_ => h_.1))).2.2) | (with_reducible refine Kd.C_alloc ?_ _) | (with_reducible refine Kd.C_drewN ?_ _) | (with_reducible refine Kd.C_drew ?_))); (case side2 => exact HC251_5.out); rintro e w40 ⟨rfl, hb⟩; refine ⟨_, rfl, ?_⟩; replace HO_5 := ak (Kd.N_below (NX (Kd.N_mono HO_5.out (fun k_ hk => (⟨hk, hk.2⟩ : _ ∧ k_ ≠ gb252))) (fun _ h_ => h_.1)) hb); replace HO_26 := ak (Kd.V_below (VX (Kd.V_mono HO_26.out (fun k_ hk => (⟨hk, hk.2⟩ : _ ∧ k_ ≠ gb252))) (fun _ h_ => h_.1)) hb); replace BK247 := kf BK247 hb; replace BK248 := kf BK248 hb; replace HR251_5 := ak (Kd.C_below ((Kd.V_reads' (VX (Kd.V_mono HL251_5.out (fun k_ hk => (⟨hk, hk.2⟩ : _ ∧ k_ ≠ gb252))) (fun _ h_ => h_.1))).2.2) hb); replace HL251_5 := ak (Kd.V_below (VX (Kd.V_mono HL251_5.out (fun k_ hk => (⟨hk, hk.2⟩ : _ ∧ k_ ≠ gb252))) (fun _ h_ => h_.1)) hb); replace BK252 := kp (cs' := #[.int .i64 ((rd_T40 l0 x28_2).f0.f0), .int .i64 ((rd_T40 l0 x28_2).f0.f1), .int .i64 ((rd_T40 l0 x28_2).f0.f2), .int .i64 ((rd_T40 l0 x28_2).f1), .int .i64 ((rd_T40 l0 x28_2).f2.f0), .slice A251_5 ((rd_T40 l0 x28_2).f2.f1).length c251_5, .int .i64 ((rd_T40 l0 x28_2).f2.f2.f0), .int .i64 ((rd_T40 l0 x28_2).f2.f2.f1), .int .i64 ((rd_T40 l0 x28_2).f2.f2.f2)]) BK252 hb; replace HB := bs HB hb; (try clear hb); (try clear hb2); (try clear hk); (try clear hi); obtain ⟨hcz41_0, hcz41_1, hcz41_2, hcz41_3, hcz41_4, hcz41_5, hcz41_6, hcz41_7, hcz41_8, hfz41_0, hfz41_1, hfz41_2, hfz41_3, hfz41_4, hfz41_5, hfz41_6, hfz41_7, hfz41_8⟩ := bc9 BK252) | (go_at_call 95; (with_reducible refine (impl_hasBody.calls ((rd_T40 l0 x28_2).f2.f0) false _ A22.out).mono ?_); rintro e w' ⟨rfl, ⟨nd, rfl⟩⟩))
           go_roundg k2
           case measure => have := HJ2.out; have := HK2.out; omega
           case rel => exact ⟨(x5_2), (wrap64 (x28_2 + 1)), (by first | rfl | (simp; done) | (simp [*]; done)), H', ⟨by have := HJ2.out; have := HK2.out; omega⟩, ⟨NX HO_5.out (fun _ hk => ⟨hk.1.1, ⟨hk.1.2.1, hk.1.2.2⟩⟩)⟩, ⟨VX HO_26.out (fun _ hk => ⟨hk.1.1, ⟨hk.1.2.1, ⟨hk.1.2.2.1, hk.1.2.2.2⟩⟩⟩)⟩, ⟨PK BK247⟩, ⟨PK BK248⟩, ⟨PB⟩⟩
         ·replace c21 := Bool.eq_false_iff.mpr c21
          subst c21
          have H1 : (impl_LearnForm.l0 k2 x5_2 l0 (l0.length : Int) (wrap64 (x28_2 + 1)) a1_0 a1_1 a1_2) = some (r1, r2, r3, r4) := by rw [if_neg (show ¬ (false = true) by decide)] at H; exact H
          clear H
          have H := H1
          clear H1
          have H' := Aside0.mk H
          clear H
          have p251 : 0 ≤ (x28_2 : Int) := of_decide_eq_true (by first | (with_reducible assumption) | assumption)
          have q251 : x28_2 < (l0.length : Int) := of_decide_eq_true (by first | (with_reducible assumption) | assumption)
          obtain ⟨ad251, A251_5, c251_5, e251, hx251_0, hx251_1, hx251_2, hx251_3, hx251_4, hx251_5, hx251_6, hx251_7, hx251_8, hl251_5, hi251_5⟩ := at_T40 (Kd.V_reads' HO_26.out).2.2 x28_2 p251 q251
          cases e251
          obtain ⟨ce251, hce251, hMe251, hcc251⟩ := Kd.V_get HO_26.out z40 x28_2 p251 (by first | exact q251 | exact of_decide_eq_true (by first | (with_reducible assumption) | assumption) | (have e_ := (Kd.V_reads' HO_26.out).1; omega))
          obtain ⟨ua251_5, uc251_5, rfl, ul251_5, ge251_5⟩ := k40_openF hMe251
          have hv251_5 := hcc251 5 _ rfl
          rw [add_field _ _ 5 (by omega)] at hv251_5
          replace hv251_5 := Option.some.inj (hv251_5.symm.trans hx251_5)
          injection hv251_5 with hva_ hvn_ hvc_
          rw [hva_] at ge251_5
          rw [hvc_] at ul251_5
          have HL251_5 := ak (show Kd.V (Kd.int .i64) 3 _ w.heap.size _ _ ((rd_T40 l0 x28_2).f2.f1) from Kd.V_mk ul251_5 ge251_5)
          clear hva_ hvn_ hvc_ ge251_5 ul251_5
          clear hcc251 hce251
          have HR251_5 := Aside0.mk hi251_5
          have HC251_5 := Aside0.mk hl251_5
          clear hi251_5 hl251_5
          replace p251 := eq_true p251
          replace q251 := eq_true q251
          go_wp2_with (first | ((with_reducible refine gate_dst (N := 7) rfl ?_); refine bx_ (N := 7) #[.int .i64 0, .int .i64 0, .int .i64 0, .int .i64 0, .int .i64 0, .slice none 0 0, .int .i64 0, .int .i64 0, .int .i64 0] 40 ?_; intro gb252 hg w42 hbox hb; replace HO_5 := ak (Kd.N_below (Kd.N_elderB (PN HO_5) gb252 (Nat.le_of_eq hg.symm)) hb); replace HO_26 := ak (Kd.V_below (Kd.V_elderB (PV HO_26) gb252 (Nat.le_of_eq hg.symm)) hb); replace HL251_5 := ak (Kd.V_below (Kd.V_elderB (PV HL251_5) gb252 (Nat.le_of_eq hg.symm)) hb); replace HR251_5 := Cb HR251_5 hb; have BK252 := ak hbox; have GW252 := gy hg HB; have GE252 := gy hg HB; replace HB := bs HB hb; have NB247_252 := gm hg BK247; have NB252_247 := gn hg BK247; replace BK247 := kf BK247 hb; have NB248_252 := gm hg BK248; have NB252_248 := gn hg BK248; replace BK248 := kf BK248 hb; clear hb hbox hg; have hnb43 := NB252_247.out; have hnc43 := NB247_252.out; have hnb44 := NB252_248.out; have hnc44 := NB248_252.out; obtain ⟨hcz45_0, hcz45_1, hcz45_2, hcz45_3, hcz45_4, hcz45_5, hcz45_6, hcz45_7, hcz45_8, hfz45_0, hfz45_1, hfz45_2, hfz45_3, hfz45_4, hfz45_5, hfz45_6, hfz45_7, hfz45_8⟩ := bc9 BK252; have hnb46 := NB247_248.out; have hnc46 := NB248_247.out; obtain ⟨hcz47_0, hcz47_1, hcz47_2, hfz47_0, hfz47_1, hfz47_2⟩ := bc3 BK247) | ((with_reducible refine gate_callee (f := 115) rfl ?_); refine goesL_ (some 34) rfl rfl Try.func115 KR rfl #[.agg #[.int .i64 ((rd_T40 l0 x28_2).f0.f0), .int .i64 ((rd_T40 l0 x28_2).f0.f1), .int .i64 ((rd_T40 l0 x28_2).f0.f2), .int .i64 ((rd_T40 l0 x28_2).f1), .int .i64 ((rd_T40 l0 x28_2).f2.f0), .slice A251_5 ((rd_T40 l0 x28_2).f2.f1).length c251_5, .int .i64 ((rd_T40 l0 x28_2).f2.f2.f0), .int .i64 ((rd_T40 l0 x28_2).f2.f2.f1), .int .i64 ((rd_T40 l0 x28_2).f2.f2.f2)], .agg #[.int .i64 a1_0, .int .i64 a1_1, .int .i64 a1_2]] rfl AR ?_; (with_reducible refine (impl_sameForm.calls ((rd_T40 l0 x28_2).f0.f0) ((rd_T40 l0 x28_2).f0.f1) ((rd_T40 l0 x28_2).f0.f2) ((rd_T40 l0 x28_2).f1) ((rd_T40 l0 x28_2).f2.f0) _ _ ((rd_T40 l0 x28_2).f2.f1) ((rd_T40 l0 x28_2).f2.f2.f0) ((rd_T40 l0 x28_2).f2.f2.f1) ((rd_T40 l0 x28_2).f2.f2.f2) a1_0 a1_1 a1_2 false _ ?side1 ?side2 A20.out).mono ?_); (case side1 => repeat (first | exact ((Kd.V_reads' (VX (Kd.V_mono HL251_5.out (fun k_ hk => (⟨hk, hk.2⟩ : _ ∧ k_ ≠ gb252))) (fun _ h_ => h_.1))).2.2) | (with_reducible refine Kd.C_alloc ?_ _) | (with_reducible refine Kd.C_drewN ?_ _) | (with_reducible refine Kd.C_drew ?_))); (case side2 => exact HC251_5.out); rintro e w48 ⟨rfl, hb⟩; refine ⟨_, rfl, ?_⟩; replace HO_5 := ak (Kd.N_below (NX (Kd.N_mono HO_5.out (fun k_ hk => (⟨hk, hk.2⟩ : _ ∧ k_ ≠ gb252))) (fun _ h_ => h_.1)) hb); replace HO_26 := ak (Kd.V_below (VX (Kd.V_mono HO_26.out (fun k_ hk => (⟨hk, hk.2⟩ : _ ∧ k_ ≠ gb252))) (fun _ h_ => h_.1)) hb); replace BK247 := kf BK247 hb; replace BK248 := kf BK248 hb; replace HR251_5 := ak (Kd.C_below ((Kd.V_reads' (VX (Kd.V_mono HL251_5.out (fun k_ hk => (⟨hk, hk.2⟩ : _ ∧ k_ ≠ gb252))) (fun _ h_ => h_.1))).2.2) hb); replace HL251_5 := ak (Kd.V_below (VX (Kd.V_mono HL251_5.out (fun k_ hk => (⟨hk, hk.2⟩ : _ ∧ k_ ≠ gb252))) (fun _ h_ => h_.1)) hb); replace BK252 := kp (cs' := #[.int .i64 ((rd_T40 l0 x28_2).f0.f0), .int .i64 ((rd_T40 l0 x28_2).f0.f1), .int .i64 ((rd_T40 l0 x28_2).f0.f2), .int .i64 ((rd_T40 l0 x28_2).f1), .int .i64 ((rd_T40 l0 x28_2).f2.f0), .slice A251_5 ((rd_T40 l0 x28_2).f2.f1).length c251_5, .int .i64 ((rd_T40 l0 x28_2).f2.f2.f0), .int .i64 ((rd_T40 l0 x28_2).f2.f2.f1), .int .i64 ((rd_T40 l0 x28_2).f2.f2.f2)]) BK252 hb; replace HB := bs HB hb; (try clear hb); (try clear hb2); (try clear hk); (try clear hi)))
          go_roundg k2
          case measure => have := HJ2.out; have := HK2.out; omega
          case rel => exact ⟨(x5_2), (wrap64 (x28_2 + 1)), (by first | rfl | (simp; done) | (simp [*]; done)), H', ⟨by have := HJ2.out; have := HK2.out; omega⟩, ⟨NX HO_5.out (fun _ hk => ⟨hk.1.1, ⟨hk.1.2.1, hk.1.2.2⟩⟩)⟩, ⟨VX HO_26.out (fun _ hk => ⟨hk.1.1, ⟨hk.1.2.1, ⟨hk.1.2.2.1, hk.1.2.2.2⟩⟩⟩)⟩, ⟨PK BK247⟩, ⟨PK BK248⟩, ⟨PB⟩⟩
        ·rw [if_neg c19] at H
         exact absurd H (by simp)
       ·rw [if_neg c18] at H
        exact absurd H (by simp)
      ·rw [if_neg c17] at H
       have c17b0 : decide (x28_2 < (l0.length : Int)) = false := decide_eq_false c17
       clear c17
       by_cases c49 : (x5_2.length : Int) = 0
       ·rw [if_pos c49] at H
        have c49b0 : ((x5_2.length : Int) == 0) = true := beq_iff_eq.mpr c49
        have c49b1 : ((x5_2.length : Int) != 0) = false := bne_eq_false_iff_eq.mpr c49
        clear c49
        simp only [Option.some.injEq, Prod.mk.injEq] at H
        obtain ⟨rfl, rfl, rfl, rfl⟩ := H
        obtain ⟨Ao50, co50, eo50⟩ := Kd.N_slice HO_5.out
        subst eo50
        go_wp2_with (first | ((with_reducible refine gate_dst (N := 8) rfl ?_); refine bx_ (N := 8) #[.int .i64 0, .int .i64 0, .int .i64 0, .bool false] 85 ?_; intro gb258 hg w51 hbox hb; replace HO_5 := ak (Kd.N_below (Kd.N_elderB (PN HO_5) gb258 (Nat.le_of_eq hg.symm)) hb); replace HO_26 := ak (Kd.V_below (Kd.V_elderB (PV HO_26) gb258 (Nat.le_of_eq hg.symm)) hb); have BK258 := ak hbox; have GW258 := gy hg HB; have GE258 := gy hg HB; replace HB := bs HB hb; have NB247_258 := gm hg BK247; have NB258_247 := gn hg BK247; replace BK247 := kf BK247 hb; have NB248_258 := gm hg BK248; have NB258_248 := gn hg BK248; replace BK248 := kf BK248 hb; clear hb hbox hg; have hnb52 := NB258_247.out; have hnc52 := NB247_258.out; have hnb53 := NB258_248.out; have hnc53 := NB248_258.out; obtain ⟨hcz54_0, hcz54_1, hcz54_2, hcz54_3, hfz54_0, hfz54_1, hfz54_2, hfz54_3⟩ := bc4 BK258; have hnb55 := NB248_247.out; have hnc55 := NB247_248.out; obtain ⟨hcz56_0, hcz56_1, hcz56_2, hcz56_3, hfz56_0, hfz56_1, hfz56_2, hfz56_3⟩ := bc4 BK248))
        refine bodyPost_ret (results_cell_row rfl _ _ gb248 85 #[.int .i64 0, .int .i64 0, .int .i64 (x5_2.length : Int), .bool true] (0, 0) _ rfl (PX BK248) Try.underlying85 rfl KR) rfl ?_
        exact ⟨RT, PB⟩
       ·rw [if_neg c49] at H
        have c49b0 : ((x5_2.length : Int) == 0) = false := beq_eq_false_iff_ne.mpr c49
        have c49b1 : ((x5_2.length : Int) != 0) = true := bne_iff_ne.mpr c49
        have c49b2 : ¬ (x5_2 = []) := fun h_ => c49 (by rw [h_]; rfl)
        by_cases c57 : 0 < (x5_2.length : Int)
        ·rw [if_pos c57] at H
         have c57b0 : decide (0 < (x5_2.length : Int)) = true := decide_eq_true c57
         have c57b1 : decide (0 < x5_2.length) = true := decide_eq_true (by omega)
         clear c57
         replace H := Option.bind_eq_some_iff.mp H
         obtain ⟨t261, A580, H⟩ := H
         replace H : (impl_LearnForm.l1 k2 x5_2 ((rd_T40 x5_2 0).f0.f2) t261 x5_2 (x5_2.length : Int) 0 t261 0 (x5_2.length : Int) true) = some (r1, r2, r3, r4) := H
         have A58 := Aside0.mk A580
         clear A580
         have HC59 := Aside0.mk H
         clear H
         obtain ⟨Ao60, co60, eo60⟩ := Kd.N_slice HO_5.out
         subst eo60
         try go_wp2_with (first | ((with_reducible refine gate_dst (N := 8) rfl ?_); refine bx_ (N := 8) #[.int .i64 0, .int .i64 0, .int .i64 0, .bool false] 85 ?_; intro gb258 hg w61 hbox hb; replace HO_5 := ak (Kd.N_below (Kd.N_elderB (PN HO_5) gb258 (Nat.le_of_eq hg.symm)) hb); replace HO_26 := ak (Kd.V_below (Kd.V_elderB (PV HO_26) gb258 (Nat.le_of_eq hg.symm)) hb); have BK258 := ak hbox; have GW258 := gy hg HB; have GE258 := gy hg HB; replace HB := bs HB hb; have NB247_258 := gm hg BK247; have NB258_247 := gn hg BK247; replace BK247 := kf BK247 hb; have NB248_258 := gm hg BK248; have NB258_248 := gn hg BK248; replace BK248 := kf BK248 hb; clear hb hbox hg; have hnb62 := NB258_247.out; have hnc62 := NB247_258.out; have hnb63 := NB258_248.out; have hnc63 := NB248_258.out; obtain ⟨hcz64_0, hcz64_1, hcz64_2, hcz64_3, hfz64_0, hfz64_1, hfz64_2, hfz64_3⟩ := bc4 BK258))
         generalize hW_ : ((((w61.setCell ⟨gb258, 0, none⟩ (.int .i64 0)).setCell ⟨gb258, 1, none⟩ (.int .i64 0)).setCell ⟨gb258, 2, none⟩ (.int .i64 (x5_2.length : Int))).setCell ⟨gb258, 3, none⟩ (.bool true)) = w65
         replace HO_5 : Aside0 (Kd.N k40 40 w65 w.heap.size (fun k_ => (P0_ k_ ∨ w.heap.size ≤ k_) ∧ k_ ≠ gb247 ∧ k_ ≠ gb248 ∧ k_ ≠ gb258) (.slice Ao60 x5_2.length co60) x5_2) := ⟨by rw [← hW_]; exact NX (Kd.N_mono HO_5.out (fun k_ hk => (⟨hk, hk.2⟩ : _ ∧ k_ ≠ gb258))) (fun _ hk => ⟨hk.1.1.1, ⟨hk.1.1.2.1, ⟨hk.1.1.2.2, hk.1.2⟩⟩⟩)⟩
         replace HO_26 : Aside0 (Kd.V k40 40 w65 w.heap.size (fun k_ => (P0_ k_ ∨ w.heap.size ≤ k_) ∧ some k_ ≠ (.slice Ao60 x5_2.length co60 : Value).ownBlock ∧ k_ ≠ gb247 ∧ k_ ≠ gb248 ∧ k_ ≠ gb258) (.slice A0 l0.length c0) l0) := ⟨by rw [← hW_]; exact VX (Kd.V_mono HO_26.out (fun k_ hk => (⟨hk, hk.2⟩ : _ ∧ k_ ≠ gb258))) (fun _ hk => ⟨hk.1.1.1, ⟨hk.1.1.2.1, ⟨hk.1.1.2.2.1, ⟨hk.1.1.2.2.2, hk.1.2⟩⟩⟩⟩)⟩
         replace BK247 := BE hW_ BK247
         replace BK248 := BE hW_ BK248
         replace BK258 : Aside0 (w65.heap[gb258]? = some (.cells #[.int .i64 0, .int .i64 0, .int .i64 (x5_2.length : Int), .bool true] 85 (0, 0))) := BP hW_ BK258
         replace HB := BL hW_ HB
         (try clear hW_)
         replace HO_5 := ak (Kd.N_drew HO_5.out)
         replace HO_26 := ak (Kd.V_drew HO_26.out)
         replace BK247 := ak (blk_drew BK247.out)
         replace BK248 := ak (blk_drew BK248.out)
         replace BK258 := ak (blk_drew BK258.out)
         replace HB := ak (below_drew1 HB.out)
         have p259 : 0 ≤ (0 : Int) := (by omega)
         have q259 : 0 < (x5_2.length : Int) := of_decide_eq_true (by first | (with_reducible assumption) | assumption)
         obtain ⟨ad259, A259_5, c259_5, e259, hx259_0, hx259_1, hx259_2, hx259_3, hx259_4, hx259_5, hx259_6, hx259_7, hx259_8, hl259_5, hi259_5⟩ := at_T40 (Kd.N_reads' HO_5.out).2.2 0 p259 q259
         cases e259
         obtain ⟨ce259, hce259, hMe259, hcc259⟩ := Kd.N_get HO_5.out z40 0 p259 (by first | exact q259 | exact of_decide_eq_true (by first | (with_reducible assumption) | assumption) | (have e_ := (Kd.N_reads' HO_5.out).1; omega))
         obtain ⟨ua259_5, uc259_5, rfl, ul259_5, ge259_5⟩ := k40_openF hMe259
         have hv259_5 := hcc259 5 _ rfl
         rw [add_field _ _ 5 (by omega)] at hv259_5
         replace hv259_5 := Option.some.inj (hv259_5.symm.trans hx259_5)
         injection hv259_5 with hva_ hvn_ hvc_
         rw [hva_] at ge259_5
         rw [hvc_] at ul259_5
         have HL259_5 := ak (show Kd.V (Kd.int .i64) 3 _ w.heap.size _ _ ((rd_T40 x5_2 0).f2.f1) from Kd.V_mk ul259_5 ge259_5)
         clear hva_ hvn_ hvc_ ge259_5 ul259_5
         clear hcc259 hce259
         have qi259 : (0 < x5_2.length) = True := eq_true (by omega)
         (try rw [show ((0 : Int)).toNat = 0 from rfl] at hx259_0)
         (try rw [show 0 * 9 = 0 from rfl] at hx259_0)
         (try rw [Addr.add_zero'] at hx259_0)
         (try rw [show ((0 : Int)).toNat = 0 from rfl] at hx259_1)
         (try rw [show 0 * 9 = 0 from rfl] at hx259_1)
         (try rw [Addr.add_zero'] at hx259_1)
         (try rw [show ((0 : Int)).toNat = 0 from rfl] at hx259_2)
         (try rw [show 0 * 9 = 0 from rfl] at hx259_2)
         (try rw [Addr.add_zero'] at hx259_2)
         (try rw [show ((0 : Int)).toNat = 0 from rfl] at hx259_3)
         (try rw [show 0 * 9 = 0 from rfl] at hx259_3)
         (try rw [Addr.add_zero'] at hx259_3)
         (try rw [show ((0 : Int)).toNat = 0 from rfl] at hx259_4)
         (try rw [show 0 * 9 = 0 from rfl] at hx259_4)
         (try rw [Addr.add_zero'] at hx259_4)
         (try rw [show ((0 : Int)).toNat = 0 from rfl] at hx259_5)
         (try rw [show 0 * 9 = 0 from rfl] at hx259_5)
         (try rw [Addr.add_zero'] at hx259_5)
         (try rw [show ((0 : Int)).toNat = 0 from rfl] at hx259_6)
         (try rw [show 0 * 9 = 0 from rfl] at hx259_6)
         (try rw [Addr.add_zero'] at hx259_6)
         (try rw [show ((0 : Int)).toNat = 0 from rfl] at hx259_7)
         (try rw [show 0 * 9 = 0 from rfl] at hx259_7)
         (try rw [Addr.add_zero'] at hx259_7)
         (try rw [show ((0 : Int)).toNat = 0 from rfl] at hx259_8)
         (try rw [show 0 * 9 = 0 from rfl] at hx259_8)
         (try rw [Addr.add_zero'] at hx259_8)
         have HR259_5 := Aside0.mk hi259_5
         have HC259_5 := Aside0.mk hl259_5
         clear hi259_5 hl259_5
         replace p259 := eq_true p259
         replace q259 := eq_true q259
         have p260 : 0 ≤ (0 : Int) := (by omega)
         have q260 : 0 < (x5_2.length : Int) := of_decide_eq_true (by first | (with_reducible assumption) | assumption)
         obtain ⟨ad260, A260_5, c260_5, e260, hx260_0, hx260_1, hx260_2, hx260_3, hx260_4, hx260_5, hx260_6, hx260_7, hx260_8, hl260_5, hi260_5⟩ := at_T40 (Kd.N_reads' HO_5.out).2.2 0 p260 q260
         obtain rfl : ad259 = ad260 := (by injection e260)
         obtain ⟨ce260, hce260, hMe260, hcc260⟩ := Kd.N_get HO_5.out z40 0 p260 (by first | exact q260 | exact of_decide_eq_true (by first | (with_reducible assumption) | assumption) | (have e_ := (Kd.N_reads' HO_5.out).1; omega))
         obtain ⟨ua260_5, uc260_5, rfl, ul260_5, ge260_5⟩ := k40_openF hMe260
         have hv260_5 := hcc260 5 _ rfl
         rw [add_field _ _ 5 (by omega)] at hv260_5
         replace hv260_5 := Option.some.inj (hv260_5.symm.trans hx260_5)
         injection hv260_5 with hva_ hvn_ hvc_
         rw [hva_] at ge260_5
         rw [hvc_] at ul260_5
         have HL260_5 := ak (show Kd.V (Kd.int .i64) 3 _ w.heap.size _ _ ((rd_T40 x5_2 0).f2.f1) from Kd.V_mk ul260_5 ge260_5)
         clear hva_ hvn_ hvc_ ge260_5 ul260_5
         clear hcc260 hce260
         have qi260 : (0 < x5_2.length) = True := eq_true (by omega)
         (try rw [show ((0 : Int)).toNat = 0 from rfl] at hx260_0)
         (try rw [show 0 * 9 = 0 from rfl] at hx260_0)
         (try rw [Addr.add_zero'] at hx260_0)
         (try rw [show ((0 : Int)).toNat = 0 from rfl] at hx260_1)
         (try rw [show 0 * 9 = 0 from rfl] at hx260_1)
         (try rw [Addr.add_zero'] at hx260_1)
         (try rw [show ((0 : Int)).toNat = 0 from rfl] at hx260_2)
         (try rw [show 0 * 9 = 0 from rfl] at hx260_2)
         (try rw [Addr.add_zero'] at hx260_2)
         (try rw [show ((0 : Int)).toNat = 0 from rfl] at hx260_3)
         (try rw [show 0 * 9 = 0 from rfl] at hx260_3)
         (try rw [Addr.add_zero'] at hx260_3)
         (try rw [show ((0 : Int)).toNat = 0 from rfl] at hx260_4)
         (try rw [show 0 * 9 = 0 from rfl] at hx260_4)
         (try rw [Addr.add_zero'] at hx260_4)
         (try rw [show ((0 : Int)).toNat = 0 from rfl] at hx260_5)
         (try rw [show 0 * 9 = 0 from rfl] at hx260_5)
         (try rw [Addr.add_zero'] at hx260_5)
         (try rw [show ((0 : Int)).toNat = 0 from rfl] at hx260_6)
         (try rw [show 0 * 9 = 0 from rfl] at hx260_6)
         (try rw [Addr.add_zero'] at hx260_6)
         (try rw [show ((0 : Int)).toNat = 0 from rfl] at hx260_7)
         (try rw [show 0 * 9 = 0 from rfl] at hx260_7)
         (try rw [Addr.add_zero'] at hx260_7)
         (try rw [show ((0 : Int)).toNat = 0 from rfl] at hx260_8)
         (try rw [show 0 * 9 = 0 from rfl] at hx260_8)
         (try rw [Addr.add_zero'] at hx260_8)
         have HR260_5 := Aside0.mk hi260_5
         have HC260_5 := Aside0.mk hl260_5
         clear hi260_5 hl260_5
         replace p260 := eq_true p260
         replace q260 := eq_true q260
         have ea_ := Option.some.inj (hx259_5.symm.trans hx260_5)
         injection ea_ with ea_ en_ ec_
         subst ea_
         subst ec_
         clear en_
         refine start_ (n := 12) (S := fun w' => w'.cell? ad259 = some (.int .i64 ((rd_T40 x5_2 0).f0.f0)) ∧ w'.cell? ⟨ad259.block, ad259.off + 1, none⟩ = some (.int .i64 ((rd_T40 x5_2 0).f0.f1)) ∧ w'.cell? ⟨ad259.block, ad259.off + 2, none⟩ = some (.int .i64 ((rd_T40 x5_2 0).f0.f2)) ∧ w'.cell? ⟨ad259.block, ad259.off + 3, none⟩ = some (.int .i64 ((rd_T40 x5_2 0).f1)) ∧ w'.cell? ⟨ad259.block, ad259.off + 4, none⟩ = some (.int .i64 ((rd_T40 x5_2 0).f2.f0)) ∧ w'.cell? ⟨ad259.block, ad259.off + 5, none⟩ = some (.slice A259_5 ((rd_T40 x5_2 0).f2.f1).length c259_5) ∧ w'.cell? ⟨ad259.block, ad259.off + 6, none⟩ = some (.int .i64 ((rd_T40 x5_2 0).f2.f2.f0)) ∧ w'.cell? ⟨ad259.block, ad259.off + 7, none⟩ = some (.int .i64 ((rd_T40 x5_2 0).f2.f2.f1)) ∧ w'.cell? ⟨ad259.block, ad259.off + 8, none⟩ = some (.int .i64 ((rd_T40 x5_2 0).f2.f2.f2)) ∧ w'.cell? ad259 = some (.int .i64 ((rd_T40 x5_2 0).f0.f0)) ∧ w'.cell? ⟨ad259.block, ad259.off + 1, none⟩ = some (.int .i64 ((rd_T40 x5_2 0).f0.f1)) ∧ w'.cell? ⟨ad259.block, ad259.off + 2, none⟩ = some (.int .i64 ((rd_T40 x5_2 0).f0.f2)) ∧ w'.cell? ⟨ad259.block, ad259.off + 3, none⟩ = some (.int .i64 ((rd_T40 x5_2 0).f1)) ∧ w'.cell? ⟨ad259.block, ad259.off + 4, none⟩ = some (.int .i64 ((rd_T40 x5_2 0).f2.f0)) ∧ w'.cell? ⟨ad259.block, ad259.off + 5, none⟩ = some (.slice A259_5 ((rd_T40 x5_2 0).f2.f1).length c259_5) ∧ w'.cell? ⟨ad259.block, ad259.off + 6, none⟩ = some (.int .i64 ((rd_T40 x5_2 0).f2.f2.f0)) ∧ w'.cell? ⟨ad259.block, ad259.off + 7, none⟩ = some (.int .i64 ((rd_T40 x5_2 0).f2.f2.f1)) ∧ w'.cell? ⟨ad259.block, ad259.off + 8, none⟩ = some (.int .i64 ((rd_T40 x5_2 0).f2.f2.f2))) (ds := []) #[false, false, false, false, false, false, false, false, false, false, false, false] KR rfl rfl ⟨hx259_0, hx259_1, hx259_2, hx259_3, hx259_4, hx259_5, hx259_6, hx259_7, hx259_8, hx260_0, hx260_1, hx260_2, hx260_3, hx260_4, hx260_5, hx260_6, hx260_7, hx260_8⟩ (fun hHeld => ?_); refine with_tabW impl_LearnForm.tab13 impl_LearnForm.bits13 (fun HT_ HW_ => ?_)
         generalize w65.drew = w66 at HO_5 HO_26 BK247 BK248 BK258 HB HL259_5 HL260_5 HR259_5 HR260_5 hx259_0 hx259_1 hx259_2 hx259_3 hx259_4 hx259_5 hx259_6 hx259_7 hx259_8 hx260_0 hx260_1 hx260_2 hx260_3 hx260_4 hx260_5 hx260_6 hx260_7 hx260_8 hHeld ⊢
         refine pu_ (i := 0) (N := some 53) #[true, false, false, false, false, false, false, false, false, false, false, false] HT_ ?_
         refine pu_ (i := 1) (N := some 54) #[true, true, false, false, false, false, false, false, false, false, false, false] HT_ ?_
         refine pu_ (i := 2) (N := some 55) #[true, true, true, false, false, false, false, false, false, false, false, false] HT_ ?_
         refine pu_ (i := 3) (N := some 56) #[true, true, true, true, false, false, false, false, false, false, false, false] HT_ ?_
         refine pu_ (i := 5) (N := some 58) #[true, true, true, true, false, true, false, false, false, false, false, false] HT_ ?_
         refine pu_ (i := 6) (N := some 59) #[true, true, true, true, false, true, true, false, false, false, false, false] HT_ ?_
         refine pu_ (i := 7) (N := some 60) #[true, true, true, true, false, true, true, true, false, false, false, false] HT_ ?_
         refine tk_ (i := 4) (N := some 57) #[true, true, true, true, true, true, true, true, false, false, false, false] rfl rfl HT_ HW_ hHeld ?_
         refine take_ (i := 8) (N := some 61) (v := ?_) (a' := ?_) #[true, true, true, true, true, true, true, true, true, false, false, false] rfl rfl (take_ofW HT_.out HW_.out KR) (fun _ _ _ h => h) (Or.inl ⟨by rfl, ?_⟩) hHeld ?_ ?_
         rotate_left
         ·rintro w' ⟨s0, s1, s2, s3, s4, s5, s6, s7, s8, s9, s10, s11, s12, s13, s14, s15, s16, s17⟩
          go_simp
          with_reducible rfl
         rotate_left
         ·simp only [Act.put, List.setIfInBounds_toArray, List.set_cons_zero, List.set_cons_succ, i64_w, i32_w]
          rfl
         refine one_ (i := 9) (N := some 62) #[true, true, true, true, true, true, true, true, true, true, false, false] rfl rfl (one_of HT_.out KR) (by decide) (fun K hK => ?_)
         refine goes_ Try.func35 KR rfl #[.agg #[.int .i64 ((rd_T40 x5_2 0).f2.f0), .slice A259_5 ((rd_T40 x5_2 0).f2.f1).length c259_5, .int .i64 ((rd_T40 x5_2 0).f2.f2.f0), .int .i64 ((rd_T40 x5_2 0).f2.f2.f1), .int .i64 ((rd_T40 x5_2 0).f2.f2.f2)]] (by rfl) rfl rfl AR ?_
         with_reducible refine (impl_ValueOfResource.calls k2 ((rd_T40 x5_2 0).f2.f0) _ _ ((rd_T40 x5_2 0).f2.f1) ((rd_T40 x5_2 0).f2.f2.f0) ((rd_T40 x5_2 0).f2.f2.f1) ((rd_T40 x5_2 0).f2.f2.f2) t261 _ ?side1 ?side2 A58.out).mono ?_
         (case side1 => repeat (first | exact (PC HR260_5) | (with_reducible refine Kd.C_alloc ?_ _) | (with_reducible refine Kd.C_drewN ?_ _) | (with_reducible refine Kd.C_drew ?_)))
         (case side2 => exact HC260_5.out)
         rintro e w67 ⟨rfl, hb⟩
         have HS0_ := hs_ hb hHeld.1; have HS1_ := hs_ hb hHeld.2.1; have HS2_ := hs_ hb hHeld.2.2.1; have HS3_ := hs_ hb hHeld.2.2.2.1; have HS4_ := hs_ hb hHeld.2.2.2.2.1; have HS5_ := hs_ hb hHeld.2.2.2.2.2.1; have HS6_ := hs_ hb hHeld.2.2.2.2.2.2.1; have HS7_ := hs_ hb hHeld.2.2.2.2.2.2.2.1; have HS8_ := hs_ hb hHeld.2.2.2.2.2.2.2.2.1; have HS9_ := hs_ hb hHeld.2.2.2.2.2.2.2.2.2.1; have HS10_ := hs_ hb hHeld.2.2.2.2.2.2.2.2.2.2.1; have HS11_ := hs_ hb hHeld.2.2.2.2.2.2.2.2.2.2.2.1; have HS12_ := hs_ hb hHeld.2.2.2.2.2.2.2.2.2.2.2.2.1; have HS13_ := hs_ hb hHeld.2.2.2.2.2.2.2.2.2.2.2.2.2.1; have HS14_ := hs_ hb hHeld.2.2.2.2.2.2.2.2.2.2.2.2.2.2.1; have HS15_ := hs_ hb hHeld.2.2.2.2.2.2.2.2.2.2.2.2.2.2.2.1; have HS16_ := hs_ hb hHeld.2.2.2.2.2.2.2.2.2.2.2.2.2.2.2.2.1; have HS17_ := hs_ hb hHeld.2.2.2.2.2.2.2.2.2.2.2.2.2.2.2.2.2
         refine ⟨_, rfl, ?_⟩
         replace HO_5 := Nb HO_5 hb
         replace HO_26 := Vb HO_26 hb
         replace HL259_5 := Vb HL259_5 hb
         replace HL260_5 := Vb HL260_5 hb
         replace BK247 := kf BK247 hb
         replace BK248 := kf BK248 hb
         replace BK258 := kf BK258 hb
         replace HR259_5 := Cb HR259_5 hb
         replace HR260_5 := Cb HR260_5 hb
         replace HB := bs HB hb
         (try clear hb)
         (try clear hb2)
         (try clear hk)
         (try clear hi)
         refine hK.out _ _ ⟨HS0_, HS1_, HS2_, HS3_, HS4_, HS5_, HS6_, HS7_, HS8_, HS9_, HS10_, HS11_, HS12_, HS13_, HS14_, HS15_, HS16_, HS17_⟩ (fun hHeld => ?_)
         clear hK K
         refine norm_ (a' := ?_) ?_ ?_
         rotate_left
         ·show Act.put _ (some 62) _ = _
          simp only [Act.put, List.setIfInBounds_toArray, List.set_cons_zero, List.set_cons_succ, i64_w, i32_w]
          rfl
         refine pu_ (i := 10) (N := some 9) #[true, true, true, true, true, true, true, true, true, true, true, false] HT_ ?_
         refine pu_ (i := 11) (N := some 10) #[true, true, true, true, true, true, true, true, true, true, true, true] HT_ ?_
         refine done_ (done_of HT_.out KR) ?_
         obtain ⟨hcz68_0, hcz68_1, hcz68_2, hcz68_3, hfz68_0, hfz68_1, hfz68_2, hfz68_3⟩ := bc4 BK258
         go_upto_block 2 with (fail)
         go_cut [] (fun wc => ∃ (kq : Nat) (x259000_58 : Int) (x259001_58 : Int), Aside0 (impl_LearnForm.j4 kq x5_2 x259000_58 x259001_58 (x5_2.length : Int) true = some (r1, r2, r3, r4)) ∧ Aside0 (kq ≤ k2) ∧ Aside0 (Kd.N k40 40 wc w.heap.size (fun k_ => (P0_ k_ ∨ w.heap.size ≤ k_) ∧ k_ ≠ gb247 ∧ k_ ≠ gb248 ∧ k_ ≠ gb258) (.slice (some ad259) x5_2.length co60) x5_2) ∧ Aside0 (wc.heap[gb247]? = some (.cells #[.int .i64 a1_0, .int .i64 a1_1, .int .i64 a1_2] 26 (0, 0))) ∧ Aside0 (wc.heap[gb248]? = some (.cells #[.int .i64 0, .int .i64 0, .int .i64 0, .bool false] 85 (0, 0))) ∧ Aside0 (wc.heap[gb258]? = some (.cells #[.int .i64 x259000_58, .int .i64 x259001_58, .int .i64 (x5_2.length : Int), .bool true] 85 (0, 0))) ∧ Aside0 (Below w.heap.size w wc))
         case first =>
          have H := HC59.out
          clear HC59
          have H' := Aside0.mk H
          clear H
          go_wp2
          go_loopg [67] k2 (fun kq v67 w' => ∃ (x67_3 : Int) (x259000_3 : Int) (x259001_3 : Int), v67 = .int .i64 x67_3 ∧ Aside0 (impl_LearnForm.l1 kq x5_2 ((rd_T40 x5_2 0).f0.f2) t261 x5_2 (x5_2.length : Int) x67_3 x259000_3 x259001_3 (x5_2.length : Int) true = some (r1, r2, r3, r4)) ∧ Aside0 (kq ≤ k2) ∧ Aside0 (Kd.N k40 40 w' w.heap.size (fun k_ => (P0_ k_ ∨ w.heap.size ≤ k_) ∧ k_ ≠ gb247 ∧ k_ ≠ gb248 ∧ k_ ≠ gb258) (.slice (some ad259) x5_2.length co60) x5_2) ∧ Aside0 (Kd.N k40 40 w' w.heap.size (fun k_ => (P0_ k_ ∨ w.heap.size ≤ k_) ∧ k_ ≠ gb247 ∧ k_ ≠ gb248 ∧ k_ ≠ gb258) (.slice (some ad259) x5_2.length co60) x5_2) ∧ Aside0 (w'.heap[gb247]? = some (.cells #[.int .i64 a1_0, .int .i64 a1_1, .int .i64 a1_2] 26 (0, 0))) ∧ Aside0 (w'.heap[gb248]? = some (.cells #[.int .i64 0, .int .i64 0, .int .i64 0, .bool false] 85 (0, 0))) ∧ Aside0 (w'.heap[gb258]? = some (.cells #[.int .i64 x259000_3, .int .i64 x259001_3, .int .i64 (x5_2.length : Int), .bool true] 85 (0, 0))) ∧ Aside0 (Below w.heap.size w w'))
          case atStart => exact ⟨(0), (t261), (0), (by first | rfl | (simp; done) | (simp [*]; done)), H', ⟨Nat.le_refl _⟩, ⟨NX (Kd.N_mono HO_5.out (fun k_ hk => (⟨hk, hk.2.2.2⟩ : _ ∧ k_ ≠ gb258))) (fun _ hk => ⟨hk.1.1, ⟨hk.1.2.1, ⟨hk.1.2.2.1, hk.1.2.2.2⟩⟩⟩)⟩, ⟨NX (Kd.N_mono HO_5.out (fun k_ hk => (⟨hk, hk.2.2.2⟩ : _ ∧ k_ ≠ gb258))) (fun _ hk => ⟨hk.1.1, ⟨hk.1.2.1, ⟨hk.1.2.2.1, hk.1.2.2.2⟩⟩⟩)⟩, ⟨PF BK247⟩, ⟨PF BK248⟩, ⟨PX BK258⟩, ⟨PB⟩⟩
          case round =>
           clear H'
           (try clear c1); (try clear c2); (try clear p2); (try clear q2); (try clear hx2); (try clear qi2); (try clear c3); (try clear c4); (try clear c5); (try clear c6); (try clear p6); (try clear c7); (try clear c10); (try clear c11); (try clear c14); (try clear c15); (try clear c17); (try clear c17b0); (try clear c18); (try clear c18b0); (try clear c19); (try clear c19b0); (try clear c21); (try clear c23); (try clear c24); (try clear c25); (try clear p25); (try clear q25); (try clear hx25); (try clear qi25); (try clear c26); (try clear p26); (try clear q26); (try clear hx26); (try clear qi26); (try clear c27); (try clear c29); (try clear c35); (try clear c36); (try clear c38); (try clear c43); (try clear c44); (try clear c46); (try clear c49); (try clear c49b0); (try clear c49b1); (try clear c49b2); (try clear c52); (try clear c53); (try clear c55); (try clear c57); (try clear c57b0); (try clear c57b1); (try clear c62); (try clear c63); (try clear p64); (try clear hcz11_0); (try clear hcz11_1); (try clear hcz11_2); (try clear hcz16_0); (try clear hcz16_1); (try clear hcz16_2); (try clear hcz16_3); (try clear hcz28_0); (try clear hcz28_1); (try clear hcz28_2); (try clear hcz28_3); (try clear hcz28_4); (try clear hcz28_5); (try clear hcz28_6); (try clear hcz28_7); (try clear hcz28_8); (try clear hcz30_0); (try clear hcz30_1); (try clear hcz30_2); (try clear hcz32_0); (try clear hcz32_1); (try clear hcz32_2); (try clear hcz32_3); (try clear hcz32_4); (try clear hcz32_5); (try clear hcz32_6); (try clear hcz32_7); (try clear hcz32_8); (try clear hcz37_0); (try clear hcz37_1); (try clear hcz37_2); (try clear hcz37_3); (try clear hcz37_4); (try clear hcz37_5); (try clear hcz37_6); (try clear hcz37_7); (try clear hcz37_8); (try clear hcz39_0); (try clear hcz39_1); (try clear hcz39_2); (try clear hcz41_0); (try clear hcz41_1); (try clear hcz41_2); (try clear hcz41_3); (try clear hcz41_4); (try clear hcz41_5); (try clear hcz41_6); (try clear hcz41_7); (try clear hcz41_8); (try clear hcz45_0); (try clear hcz45_1); (try clear hcz45_2); (try clear hcz45_3); (try clear hcz45_4); (try clear hcz45_5); (try clear hcz45_6); (try clear hcz45_7); (try clear hcz45_8); (try clear hcz47_0); (try clear hcz47_1); (try clear hcz47_2); (try clear hcz54_0); (try clear hcz54_1); (try clear hcz54_2); (try clear hcz54_3); (try clear hcz56_0); (try clear hcz56_1); (try clear hcz56_2); (try clear hcz56_3); (try clear hcz64_0); (try clear hcz64_1); (try clear hcz64_2); (try clear hcz64_3); (try clear hcz68_0); (try clear hcz68_1); (try clear hcz68_2); (try clear hcz68_3); (try clear hfz11_0); (try clear hfz11_1); (try clear hfz11_2); (try clear hfz16_0); (try clear hfz16_1); (try clear hfz16_2); (try clear hfz16_3); (try clear hfz28_0); (try clear hfz28_1); (try clear hfz28_2); (try clear hfz28_3); (try clear hfz28_4); (try clear hfz28_5); (try clear hfz28_6); (try clear hfz28_7); (try clear hfz28_8); (try clear hfz30_0); (try clear hfz30_1); (try clear hfz30_2); (try clear hfz32_0); (try clear hfz32_1); (try clear hfz32_2); (try clear hfz32_3); (try clear hfz32_4); (try clear hfz32_5); (try clear hfz32_6); (try clear hfz32_7); (try clear hfz32_8); (try clear hfz37_0); (try clear hfz37_1); (try clear hfz37_2); (try clear hfz37_3); (try clear hfz37_4); (try clear hfz37_5); (try clear hfz37_6); (try clear hfz37_7); (try clear hfz37_8); (try clear hfz39_0); (try clear hfz39_1); (try clear hfz39_2); (try clear hfz41_0); (try clear hfz41_1); (try clear hfz41_2); (try clear hfz41_3); (try clear hfz41_4); (try clear hfz41_5); (try clear hfz41_6); (try clear hfz41_7); (try clear hfz41_8); (try clear hfz45_0); (try clear hfz45_1); (try clear hfz45_2); (try clear hfz45_3); (try clear hfz45_4); (try clear hfz45_5); (try clear hfz45_6); (try clear hfz45_7); (try clear hfz45_8); (try clear hfz47_0); (try clear hfz47_1); (try clear hfz47_2); (try clear hfz54_0); (try clear hfz54_1); (try clear hfz54_2); (try clear hfz54_3); (try clear hfz56_0); (try clear hfz56_1); (try clear hfz56_2); (try clear hfz56_3); (try clear hfz64_0); (try clear hfz64_1); (try clear hfz64_2); (try clear hfz64_3); (try clear hfz68_0); (try clear hfz68_1); (try clear hfz68_2); (try clear hfz68_3); (try clear hx251_0); (try clear hx251_1); (try clear hx251_2); (try clear hx251_3); (try clear hx251_4); (try clear hx251_5); (try clear hx251_6); (try clear hx251_7); (try clear hx251_8); (try clear hx259_0); (try clear hx259_1); (try clear hx259_2); (try clear hx259_3); (try clear hx259_4); (try clear hx259_5); (try clear hx259_6); (try clear hx259_7); (try clear hx259_8); (try clear hx260_0); (try clear hx260_1); (try clear hx260_2); (try clear hx260_3); (try clear hx260_4); (try clear hx260_5); (try clear hx260_6); (try clear hx260_7); (try clear hx260_8); (try clear p2); (try clear p251); (try clear p259); (try clear p260); (try clear q251); (try clear q259); (try clear q260)
           obtain ⟨x67_3, x259000_3, x259001_3, rfl, HA, HK3, HO_5, HO_65, BK247, BK248, BK258, HB⟩ := hrel
           cases gk with
           | zero => exact absurd HA.out (by simp [impl_LearnForm.l1])
           | succ k3 =>
            have H := HA.out
            clear HA
            simp only [impl_LearnForm.l1] at H
            by_cases c69 : x67_3 < (x5_2.length : Int)
            ·rw [if_pos c69] at H
             have c69b0 : decide (x67_3 < (x5_2.length : Int)) = true := decide_eq_true c69
             clear c69
             (first | rw [c69b0] | (simp only [i64_w, i32_w]; rw [c69b0]) | skip)
             by_cases c70 : 0 ≤ x67_3
             ·rw [if_pos c70] at H
              have c70b0 : decide (0 ≤ x67_3) = true := decide_eq_true c70
              clear c70
              by_cases c71 : x67_3 < (x5_2.length : Int)
              ·rw [if_pos c71] at H
               have c71b0 : decide (x67_3 < (x5_2.length : Int)) = true := decide_eq_true c71
               clear c71
               by_cases c72 : ((rd_T40 x5_2 x67_3).f0.f2) = ((rd_T40 x5_2 0).f0.f2)
               ·rw [if_pos c72] at H
                have c72b0 : (((rd_T40 x5_2 x67_3).f0.f2) == ((rd_T40 x5_2 0).f0.f2)) = true := beq_iff_eq.mpr c72
                have c72b1 : (((rd_T40 x5_2 x67_3).f0.f2) != ((rd_T40 x5_2 0).f0.f2)) = false := bne_eq_false_iff_eq.mpr c72
                clear c72
                have H' := Aside0.mk H
                clear H
                have p262 : 0 ≤ (x67_3 : Int) := of_decide_eq_true (by first | (with_reducible assumption) | assumption)
                have q262 : x67_3 < (x5_2.length : Int) := of_decide_eq_true (by first | (with_reducible assumption) | assumption)
                obtain ⟨ad262, A262_5, c262_5, e262, hx262_0, hx262_1, hx262_2, hx262_3, hx262_4, hx262_5, hx262_6, hx262_7, hx262_8, hl262_5, hi262_5⟩ := at_T40 (Kd.N_reads' HO_65.out).2.2 x67_3 p262 q262
                obtain rfl : ad259 = ad262 := (by injection e262)
                obtain ⟨ce262, hce262, hMe262, hcc262⟩ := Kd.N_get HO_65.out z40 x67_3 p262 (by first | exact q262 | exact of_decide_eq_true (by first | (with_reducible assumption) | assumption) | (have e_ := (Kd.N_reads' HO_65.out).1; omega))
                obtain ⟨ua262_5, uc262_5, rfl, ul262_5, ge262_5⟩ := k40_openF hMe262
                have hv262_5 := hcc262 5 _ rfl
                rw [add_field _ _ 5 (by omega)] at hv262_5
                replace hv262_5 := Option.some.inj (hv262_5.symm.trans hx262_5)
                injection hv262_5 with hva_ hvn_ hvc_
                rw [hva_] at ge262_5
                rw [hvc_] at ul262_5
                have HL262_5 := ak (show Kd.V (Kd.int .i64) 3 _ w.heap.size _ _ ((rd_T40 x5_2 x67_3).f2.f1) from Kd.V_mk ul262_5 ge262_5)
                clear hva_ hvn_ hvc_ ge262_5 ul262_5
                clear hcc262 hce262
                have HR262_5 := Aside0.mk hi262_5
                have HC262_5 := Aside0.mk hl262_5
                clear hi262_5 hl262_5
                replace p262 := eq_true p262
                replace q262 := eq_true q262
                go_wp2_with (first | ((with_reducible refine gate_dst (N := 12) rfl ?_); refine bx_ (N := 12) #[.int .i64 0, .int .i64 0, .int .i64 0, .int .i64 0, .int .i64 0, .slice none 0 0, .int .i64 0, .int .i64 0, .int .i64 0] 40 ?_; intro gb263 hg w73 hbox hb; replace HO_5 := ak (Kd.N_below (Kd.N_elderB (PN HO_5) gb263 (Nat.le_of_eq hg.symm)) hb); replace HO_65 := ak (Kd.N_below (Kd.N_elderB (PN HO_65) gb263 (Nat.le_of_eq hg.symm)) hb); replace HL262_5 := ak (Kd.V_below (Kd.V_elderB (PV HL262_5) gb263 (Nat.le_of_eq hg.symm)) hb); replace HR262_5 := Cb HR262_5 hb; have BK263 := ak hbox; have GW263 := gy hg HB; have GE263 := gy hg HB; replace HB := bs HB hb; have NB247_263 := gm hg BK247; have NB263_247 := gn hg BK247; replace BK247 := kf BK247 hb; have NB248_263 := gm hg BK248; have NB263_248 := gn hg BK248; replace BK248 := kf BK248 hb; have NB258_263 := gm hg BK258; have NB263_258 := gn hg BK258; replace BK258 := kf BK258 hb; clear hb hbox hg; have hnb74 := NB263_247.out; have hnc74 := NB247_263.out; have hnb75 := NB263_248.out; have hnc75 := NB248_263.out; have hnb76 := NB263_258.out; have hnc76 := NB258_263.out; obtain ⟨hcz77_0, hcz77_1, hcz77_2, hcz77_3, hcz77_4, hcz77_5, hcz77_6, hcz77_7, hcz77_8, hfz77_0, hfz77_1, hfz77_2, hfz77_3, hfz77_4, hfz77_5, hfz77_6, hfz77_7, hfz77_8⟩ := bc9 BK263))
                go_roundg k3
                case measure => have := HJ2.out; have := HK2.out; have := HK3.out; omega
                case rel => exact ⟨(wrap64 (x67_3 + 1)), (x259000_3), (x259001_3), (by first | rfl | (simp; done) | (simp [*]; done)), H', ⟨by have := HJ2.out; have := HK2.out; have := HK3.out; omega⟩, ⟨NX (Kd.N_mono HO_5.out (fun k_ hk => (⟨hk, hk.2⟩ : _ ∧ k_ ≠ gb263))) (fun _ hk => ⟨hk.1.1.1, ⟨hk.1.1.2.1, ⟨hk.1.1.2.2.1, hk.1.1.2.2.2⟩⟩⟩)⟩, ⟨NX (Kd.N_mono HO_65.out (fun k_ hk => (⟨hk, hk.2⟩ : _ ∧ k_ ≠ gb263))) (fun _ hk => ⟨hk.1.1.1, ⟨hk.1.1.2.1, ⟨hk.1.1.2.2.1, hk.1.1.2.2.2⟩⟩⟩)⟩, ⟨PF BK247⟩, ⟨PF BK248⟩, ⟨PF BK258⟩, ⟨PB⟩⟩
               ·rw [if_neg c72] at H
                have c72b0 : (((rd_T40 x5_2 x67_3).f0.f2) == ((rd_T40 x5_2 0).f0.f2)) = false := beq_eq_false_iff_ne.mpr c72
                have c72b1 : (((rd_T40 x5_2 x67_3).f0.f2) != ((rd_T40 x5_2 0).f0.f2)) = true := bne_iff_ne.mpr c72
                have H' := Aside0.mk H
                clear H
                have p262 : 0 ≤ (x67_3 : Int) := of_decide_eq_true (by first | (with_reducible assumption) | assumption)
                have q262 : x67_3 < (x5_2.length : Int) := of_decide_eq_true (by first | (with_reducible assumption) | assumption)
                obtain ⟨ad262, A262_5, c262_5, e262, hx262_0, hx262_1, hx262_2, hx262_3, hx262_4, hx262_5, hx262_6, hx262_7, hx262_8, hl262_5, hi262_5⟩ := at_T40 (Kd.N_reads' HO_65.out).2.2 x67_3 p262 q262
                obtain rfl : ad259 = ad262 := (by injection e262)
                obtain ⟨ce262, hce262, hMe262, hcc262⟩ := Kd.N_get HO_65.out z40 x67_3 p262 (by first | exact q262 | exact of_decide_eq_true (by first | (with_reducible assumption) | assumption) | (have e_ := (Kd.N_reads' HO_65.out).1; omega))
                obtain ⟨ua262_5, uc262_5, rfl, ul262_5, ge262_5⟩ := k40_openF hMe262
                have hv262_5 := hcc262 5 _ rfl
                rw [add_field _ _ 5 (by omega)] at hv262_5
                replace hv262_5 := Option.some.inj (hv262_5.symm.trans hx262_5)
                injection hv262_5 with hva_ hvn_ hvc_
                rw [hva_] at ge262_5
                rw [hvc_] at ul262_5
                have HL262_5 := ak (show Kd.V (Kd.int .i64) 3 _ w.heap.size _ _ ((rd_T40 x5_2 x67_3).f2.f1) from Kd.V_mk ul262_5 ge262_5)
                clear hva_ hvn_ hvc_ ge262_5 ul262_5
                clear hcc262 hce262
                have HR262_5 := Aside0.mk hi262_5
                have HC262_5 := Aside0.mk hl262_5
                clear hi262_5 hl262_5
                replace p262 := eq_true p262
                replace q262 := eq_true q262
                go_wp2_with (first | ((with_reducible refine gate_dst (N := 12) rfl ?_); refine bx_ (N := 12) #[.int .i64 0, .int .i64 0, .int .i64 0, .int .i64 0, .int .i64 0, .slice none 0 0, .int .i64 0, .int .i64 0, .int .i64 0] 40 ?_; intro gb263 hg w78 hbox hb; replace HO_5 := ak (Kd.N_below (Kd.N_elderB (PN HO_5) gb263 (Nat.le_of_eq hg.symm)) hb); replace HO_65 := ak (Kd.N_below (Kd.N_elderB (PN HO_65) gb263 (Nat.le_of_eq hg.symm)) hb); replace HL262_5 := ak (Kd.V_below (Kd.V_elderB (PV HL262_5) gb263 (Nat.le_of_eq hg.symm)) hb); replace HR262_5 := Cb HR262_5 hb; have BK263 := ak hbox; have GW263 := gy hg HB; have GE263 := gy hg HB; replace HB := bs HB hb; have NB247_263 := gm hg BK247; have NB263_247 := gn hg BK247; replace BK247 := kf BK247 hb; have NB248_263 := gm hg BK248; have NB263_248 := gn hg BK248; replace BK248 := kf BK248 hb; have NB258_263 := gm hg BK258; have NB263_258 := gn hg BK258; replace BK258 := kf BK258 hb; clear hb hbox hg; have hnb79 := NB263_247.out; have hnc79 := NB247_263.out; have hnb80 := NB263_248.out; have hnc80 := NB248_263.out; have hnb81 := NB263_258.out; have hnc81 := NB258_263.out; obtain ⟨hcz82_0, hcz82_1, hcz82_2, hcz82_3, hcz82_4, hcz82_5, hcz82_6, hcz82_7, hcz82_8, hfz82_0, hfz82_1, hfz82_2, hfz82_3, hfz82_4, hfz82_5, hfz82_6, hfz82_7, hfz82_8⟩ := bc9 BK263))
                go_loopg [76] k3 (fun kq v76 w' => ∃ (x76_4 : Int) (x259000_4 : Int) (x259001_4 : Int), v76 = .int .i64 x76_4 ∧ Aside0 (impl_LearnForm.l2 kq x5_2 ((rd_T40 x5_2 0).f0.f2) t261 x76_4 x259000_4 x259001_4 (x5_2.length : Int) true ((rd_T40 x5_2 x67_3).f0.f0) ((rd_T40 x5_2 x67_3).f0.f1) ((rd_T40 x5_2 x67_3).f0.f2) ((rd_T40 x5_2 x67_3).f1) ((rd_T40 x5_2 x67_3).f2.f0) ((rd_T40 x5_2 x67_3).f2.f1) ((rd_T40 x5_2 x67_3).f2.f2.f0) ((rd_T40 x5_2 x67_3).f2.f2.f1) ((rd_T40 x5_2 x67_3).f2.f2.f2) = some (r1, r2, r3, r4)) ∧ Aside0 (kq ≤ k3) ∧ Aside0 (Kd.N k40 40 w' w.heap.size (fun k_ => (P0_ k_ ∨ w.heap.size ≤ k_) ∧ k_ ≠ gb247 ∧ k_ ≠ gb248 ∧ k_ ≠ gb258 ∧ k_ ≠ gb263) (.slice (some ad259) x5_2.length co60) x5_2) ∧ Aside0 (Kd.V (Kd.int .i64) 3 w' w.heap.size (fun _ => True) (.slice A262_5 ((rd_T40 x5_2 x67_3).f2.f1).length c262_5) ((rd_T40 x5_2 x67_3).f2.f1)) ∧ Aside0 (w'.heap[gb247]? = some (.cells #[.int .i64 a1_0, .int .i64 a1_1, .int .i64 a1_2] 26 (0, 0))) ∧ Aside0 (w'.heap[gb248]? = some (.cells #[.int .i64 0, .int .i64 0, .int .i64 0, .bool false] 85 (0, 0))) ∧ Aside0 (w'.heap[gb258]? = some (.cells #[.int .i64 x259000_4, .int .i64 x259001_4, .int .i64 (x5_2.length : Int), .bool true] 85 (0, 0))) ∧ Aside0 (w'.heap[gb263]? = some (.cells #[.int .i64 ((rd_T40 x5_2 x67_3).f0.f0), .int .i64 ((rd_T40 x5_2 x67_3).f0.f1), .int .i64 ((rd_T40 x5_2 x67_3).f0.f2), .int .i64 ((rd_T40 x5_2 x67_3).f1), .int .i64 ((rd_T40 x5_2 x67_3).f2.f0), (.slice A262_5 ((rd_T40 x5_2 x67_3).f2.f1).length c262_5), .int .i64 ((rd_T40 x5_2 x67_3).f2.f2.f0), .int .i64 ((rd_T40 x5_2 x67_3).f2.f2.f1), .int .i64 ((rd_T40 x5_2 x67_3).f2.f2.f2)] 40 (0, 0))) ∧ Aside0 (Below w.heap.size w w'))
                case atStart => exact ⟨(0), (x259000_3), (x259001_3), (by first | rfl | (simp; done) | (simp [*]; done)), H', ⟨Nat.le_refl _⟩, ⟨NX (Kd.N_mono HO_5.out (fun k_ hk => (⟨hk, hk.2⟩ : _ ∧ k_ ≠ gb263))) (fun _ hk => ⟨hk.1.1.1, ⟨hk.1.1.2.1, ⟨hk.1.1.2.2.1, ⟨hk.1.1.2.2.2, hk.1.2⟩⟩⟩⟩)⟩, ⟨VX HL262_5.out (fun _ _ => trivial)⟩, ⟨PF BK247⟩, ⟨PF BK248⟩, ⟨PF BK258⟩, ⟨PX BK263⟩, ⟨PB⟩⟩
                case round =>
                 clear H'
                 (try clear c1); (try clear c2); (try clear p2); (try clear q2); (try clear hx2); (try clear qi2); (try clear c3); (try clear c4); (try clear c5); (try clear c6); (try clear p6); (try clear c7); (try clear c8); (try clear c10); (try clear c11); (try clear c14); (try clear c15); (try clear c17); (try clear c17b0); (try clear c18); (try clear c18b0); (try clear c19); (try clear c19b0); (try clear c21); (try clear c23); (try clear c24); (try clear c25); (try clear p25); (try clear q25); (try clear hx25); (try clear qi25); (try clear c26); (try clear p26); (try clear q26); (try clear hx26); (try clear qi26); (try clear c27); (try clear c29); (try clear c35); (try clear c36); (try clear c38); (try clear c43); (try clear c44); (try clear c46); (try clear c49); (try clear c49b0); (try clear c49b1); (try clear c49b2); (try clear c52); (try clear c53); (try clear c55); (try clear c57); (try clear c57b0); (try clear c57b1); (try clear c62); (try clear c63); (try clear p64); (try clear c69); (try clear c69b0); (try clear c70); (try clear c70b0); (try clear c71); (try clear c71b0); (try clear c72); (try clear c72b0); (try clear c72b1); (try clear c74); (try clear c75); (try clear c76); (try clear c79); (try clear c80); (try clear c81); (try clear hcz11_0); (try clear hcz11_1); (try clear hcz11_2); (try clear hcz16_0); (try clear hcz16_1); (try clear hcz16_2); (try clear hcz16_3); (try clear hcz28_0); (try clear hcz28_1); (try clear hcz28_2); (try clear hcz28_3); (try clear hcz28_4); (try clear hcz28_5); (try clear hcz28_6); (try clear hcz28_7); (try clear hcz28_8); (try clear hcz30_0); (try clear hcz30_1); (try clear hcz30_2); (try clear hcz32_0); (try clear hcz32_1); (try clear hcz32_2); (try clear hcz32_3); (try clear hcz32_4); (try clear hcz32_5); (try clear hcz32_6); (try clear hcz32_7); (try clear hcz32_8); (try clear hcz37_0); (try clear hcz37_1); (try clear hcz37_2); (try clear hcz37_3); (try clear hcz37_4); (try clear hcz37_5); (try clear hcz37_6); (try clear hcz37_7); (try clear hcz37_8); (try clear hcz39_0); (try clear hcz39_1); (try clear hcz39_2); (try clear hcz41_0); (try clear hcz41_1); (try clear hcz41_2); (try clear hcz41_3); (try clear hcz41_4); (try clear hcz41_5); (try clear hcz41_6); (try clear hcz41_7); (try clear hcz41_8); (try clear hcz45_0); (try clear hcz45_1); (try clear hcz45_2); (try clear hcz45_3); (try clear hcz45_4); (try clear hcz45_5); (try clear hcz45_6); (try clear hcz45_7); (try clear hcz45_8); (try clear hcz47_0); (try clear hcz47_1); (try clear hcz47_2); (try clear hcz54_0); (try clear hcz54_1); (try clear hcz54_2); (try clear hcz54_3); (try clear hcz56_0); (try clear hcz56_1); (try clear hcz56_2); (try clear hcz56_3); (try clear hcz64_0); (try clear hcz64_1); (try clear hcz64_2); (try clear hcz64_3); (try clear hcz68_0); (try clear hcz68_1); (try clear hcz68_2); (try clear hcz68_3); (try clear hcz77_0); (try clear hcz77_1); (try clear hcz77_2); (try clear hcz77_3); (try clear hcz77_4); (try clear hcz77_5); (try clear hcz77_6); (try clear hcz77_7); (try clear hcz77_8); (try clear hcz82_0); (try clear hcz82_1); (try clear hcz82_2); (try clear hcz82_3); (try clear hcz82_4); (try clear hcz82_5); (try clear hcz82_6); (try clear hcz82_7); (try clear hcz82_8); (try clear hfz11_0); (try clear hfz11_1); (try clear hfz11_2); (try clear hfz16_0); (try clear hfz16_1); (try clear hfz16_2); (try clear hfz16_3); (try clear hfz28_0); (try clear hfz28_1); (try clear hfz28_2); (try clear hfz28_3); (try clear hfz28_4); (try clear hfz28_5); (try clear hfz28_6); (try clear hfz28_7); (try clear hfz28_8); (try clear hfz30_0); (try clear hfz30_1); (try clear hfz30_2); (try clear hfz32_0); (try clear hfz32_1); (try clear hfz32_2); (try clear hfz32_3); (try clear hfz32_4); (try clear hfz32_5); (try clear hfz32_6); (try clear hfz32_7); (try clear hfz32_8); (try clear hfz37_0); (try clear hfz37_1); (try clear hfz37_2); (try clear hfz37_3); (try clear hfz37_4); (try clear hfz37_5); (try clear hfz37_6); (try clear hfz37_7); (try clear hfz37_8); (try clear hfz39_0); (try clear hfz39_1); (try clear hfz39_2); (try clear hfz41_0); (try clear hfz41_1); (try clear hfz41_2); (try clear hfz41_3); (try clear hfz41_4); (try clear hfz41_5); (try clear hfz41_6); (try clear hfz41_7); (try clear hfz41_8); (try clear hfz45_0); (try clear hfz45_1); (try clear hfz45_2); (try clear hfz45_3); (try clear hfz45_4); (try clear hfz45_5); (try clear hfz45_6); (try clear hfz45_7); (try clear hfz45_8); (try clear hfz47_0); (try clear hfz47_1); (try clear hfz47_2); (try clear hfz54_0); (try clear hfz54_1); (try clear hfz54_2); (try clear hfz54_3); (try clear hfz56_0); (try clear hfz56_1); (try clear hfz56_2); (try clear hfz56_3); (try clear hfz64_0); (try clear hfz64_1); (try clear hfz64_2); (try clear hfz64_3); (try clear hfz68_0); (try clear hfz68_1); (try clear hfz68_2); (try clear hfz68_3); (try clear hfz77_0); (try clear hfz77_1); (try clear hfz77_2); (try clear hfz77_3); (try clear hfz77_4); (try clear hfz77_5); (try clear hfz77_6); (try clear hfz77_7); (try clear hfz77_8); (try clear hfz82_0); (try clear hfz82_1); (try clear hfz82_2); (try clear hfz82_3); (try clear hfz82_4); (try clear hfz82_5); (try clear hfz82_6); (try clear hfz82_7); (try clear hfz82_8); (try clear hx251_0); (try clear hx251_1); (try clear hx251_2); (try clear hx251_3); (try clear hx251_4); (try clear hx251_5); (try clear hx251_6); (try clear hx251_7); (try clear hx251_8); (try clear hx259_0); (try clear hx259_1); (try clear hx259_2); (try clear hx259_3); (try clear hx259_4); (try clear hx259_5); (try clear hx259_6); (try clear hx259_7); (try clear hx259_8); (try clear hx260_0); (try clear hx260_1); (try clear hx260_2); (try clear hx260_3); (try clear hx260_4); (try clear hx260_5); (try clear hx260_6); (try clear hx260_7); (try clear hx260_8); (try clear hx262_0); (try clear hx262_1); (try clear hx262_2); (try clear hx262_3); (try clear hx262_4); (try clear hx262_5); (try clear hx262_6); (try clear hx262_7); (try clear hx262_8); (try clear p2); (try clear p25); (try clear p251); (try clear p259); (try clear p26); (try clear p260); (try clear p262); (try clear p6); (try clear p64); (try clear q2); (try clear q25); (try clear q251); (try clear q259); (try clear q26); (try clear q260); (try clear q262)
                 obtain ⟨x76_4, x259000_4, x259001_4, rfl, HA, HK4, HO_5, HV262, BK247, BK248, BK258, BK263, HB⟩ := hrel
                 cases gk with
                 | zero => exact absurd HA.out (by simp [impl_LearnForm.l2])
                 | succ k4 =>
                  have H := HA.out
                  clear HA
                  simp only [impl_LearnForm.l2] at H
                  by_cases c83 : x76_4 < 1000
                  ·rw [if_pos c83] at H
                   have c83b0 : decide (x76_4 < 1000) = true := decide_eq_true c83
                   clear c83
                   replace H := Option.bind_eq_some_iff.mp H
                   obtain ⟨t264, A840, H⟩ := H
                   replace H : ((impl_Model_says.f t264 x76_4 0 false ((rd_T40 x5_2 x67_3).f0.f2)).bind fun t266 => ((impl_ValueOfResource.f k4 ((rd_T40 x5_2 x67_3).f2.f0) ((rd_T40 x5_2 x67_3).f2.f1) ((rd_T40 x5_2 x67_3).f2.f2.f0) ((rd_T40 x5_2 x67_3).f2.f2.f1) ((rd_T40 x5_2 x67_3).f2.f2.f2)).bind fun t267 => (if t266 = t267 then (impl_LearnForm.j4 k4 x5_2 t264 x76_4 (x5_2.length : Int) true) else (impl_LearnForm.l2 k4 x5_2 ((rd_T40 x5_2 0).f0.f2) t261 (wrap64 (x76_4 + 1)) x259000_4 x259001_4 (x5_2.length : Int) true ((rd_T40 x5_2 x67_3).f0.f0) ((rd_T40 x5_2 x67_3).f0.f1) ((rd_T40 x5_2 x67_3).f0.f2) ((rd_T40 x5_2 x67_3).f1) ((rd_T40 x5_2 x67_3).f2.f0) ((rd_T40 x5_2 x67_3).f2.f1) ((rd_T40 x5_2 x67_3).f2.f2.f0) ((rd_T40 x5_2 x67_3).f2.f2.f1) ((rd_T40 x5_2 x67_3).f2.f2.f2))))) = some (r1, r2, r3, r4) := H
                   have A84 := Aside0.mk A840
                   clear A840
                   replace H := Option.bind_eq_some_iff.mp H
                   obtain ⟨t266, A850, H⟩ := H
                   replace H : ((impl_ValueOfResource.f k4 ((rd_T40 x5_2 x67_3).f2.f0) ((rd_T40 x5_2 x67_3).f2.f1) ((rd_T40 x5_2 x67_3).f2.f2.f0) ((rd_T40 x5_2 x67_3).f2.f2.f1) ((rd_T40 x5_2 x67_3).f2.f2.f2)).bind fun t267 => (if t266 = t267 then (impl_LearnForm.j4 k4 x5_2 t264 x76_4 (x5_2.length : Int) true) else (impl_LearnForm.l2 k4 x5_2 ((rd_T40 x5_2 0).f0.f2) t261 (wrap64 (x76_4 + 1)) x259000_4 x259001_4 (x5_2.length : Int) true ((rd_T40 x5_2 x67_3).f0.f0) ((rd_T40 x5_2 x67_3).f0.f1) ((rd_T40 x5_2 x67_3).f0.f2) ((rd_T40 x5_2 x67_3).f1) ((rd_T40 x5_2 x67_3).f2.f0) ((rd_T40 x5_2 x67_3).f2.f1) ((rd_T40 x5_2 x67_3).f2.f2.f0) ((rd_T40 x5_2 x67_3).f2.f2.f1) ((rd_T40 x5_2 x67_3).f2.f2.f2)))) = some (r1, r2, r3, r4) := H
                   have A85 := Aside0.mk A850
                   clear A850
                   replace H := Option.bind_eq_some_iff.mp H
                   obtain ⟨t267, A860, H⟩ := H
                   replace H : (if t266 = t267 then (impl_LearnForm.j4 k4 x5_2 t264 x76_4 (x5_2.length : Int) true) else (impl_LearnForm.l2 k4 x5_2 ((rd_T40 x5_2 0).f0.f2) t261 (wrap64 (x76_4 + 1)) x259000_4 x259001_4 (x5_2.length : Int) true ((rd_T40 x5_2 x67_3).f0.f0) ((rd_T40 x5_2 x67_3).f0.f1) ((rd_T40 x5_2 x67_3).f0.f2) ((rd_T40 x5_2 x67_3).f1) ((rd_T40 x5_2 x67_3).f2.f0) ((rd_T40 x5_2 x67_3).f2.f1) ((rd_T40 x5_2 x67_3).f2.f2.f0) ((rd_T40 x5_2 x67_3).f2.f2.f1) ((rd_T40 x5_2 x67_3).f2.f2.f2))) = some (r1, r2, r3, r4) := H
                   have A86 := Aside0.mk A860
                   clear A860
                   by_cases c87 : t266 = t267
                   ·rw [if_pos c87] at H
                    have c87b0 : (t266 == t267) = true := beq_iff_eq.mpr c87
                    have c87b1 : (t266 != t267) = false := bne_eq_false_iff_eq.mpr c87
                    clear c87
                    have H' := Aside0.mk H
                    clear H
                    try go_wp2_with (first | ((with_reducible refine gate_callee (f := 87) rfl ?_); refine goesL_ (some 84) rfl rfl Try.func87 KR rfl #[.int .i64 (wrap64 (t261 - (wrap64 (x76_4 * ((rd_T40 x5_2 0).f0.f2))))), .int .i64 1000] rfl AR ?_; (with_reducible refine (impl_Mod.calls (wrap64 (t261 - (wrap64 (x76_4 * ((rd_T40 x5_2 0).f0.f2))))) 1000 t264 _ A84.out).mono ?_); rintro e w' ⟨rfl, ⟨nd, rfl⟩⟩; refine ⟨_, rfl, ?_⟩; (try (rw [drewN_self wr]; generalize hq_ : World.drewN wr _ = wr; replace HO_5 : Aside0 (Kd.N k40 40 wr w.heap.size (fun k_ => (P0_ k_ ∨ w.heap.size ≤ k_) ∧ k_ ≠ gb247 ∧ k_ ≠ gb248 ∧ k_ ≠ gb258 ∧ k_ ≠ gb263) (.slice (some ad259) x5_2.length co60) x5_2) := ⟨by rw [← hq_]; exact (PN HO_5)⟩; replace HV262 : Aside0 (Kd.V (Kd.int .i64) 3 wr w.heap.size (fun _ => True) (.slice A262_5 ((rd_T40 x5_2 x67_3).f2.f1).length c262_5) ((rd_T40 x5_2 x67_3).f2.f1)) := ⟨by rw [← hq_]; exact (PV HV262)⟩; replace BK247 : Aside0 (wr.heap[gb247]? = some (.cells #[.int .i64 a1_0, .int .i64 a1_1, .int .i64 a1_2] 26 (0, 0))) := ⟨by rw [← hq_]; exact (PK BK247)⟩; replace BK248 : Aside0 (wr.heap[gb248]? = some (.cells #[.int .i64 0, .int .i64 0, .int .i64 0, .bool false] 85 (0, 0))) := ⟨by rw [← hq_]; exact (PK BK248)⟩; replace BK258 : Aside0 (wr.heap[gb258]? = some (.cells #[.int .i64 x259000_4, .int .i64 x259001_4, .int .i64 (x5_2.length : Int), .bool true] 85 (0, 0))) := ⟨by rw [← hq_]; exact (PK BK258)⟩; replace BK263 : Aside0 (wr.heap[gb263]? = some (.cells #[.int .i64 ((rd_T40 x5_2 x67_3).f0.f0), .int .i64 ((rd_T40 x5_2 x67_3).f0.f1), .int .i64 ((rd_T40 x5_2 x67_3).f0.f2), .int .i64 ((rd_T40 x5_2 x67_3).f1), .int .i64 ((rd_T40 x5_2 x67_3).f2.f0), .slice A262_5 ((rd_T40 x5_2 x67_3).f2.f1).length c262_5, .int .i64 ((rd_T40 x5_2 x67_3).f2.f2.f0), .int .i64 ((rd_T40 x5_2 x67_3).f2.f2.f1), .int .i64 ((rd_T40 x5_2 x67_3).f2.f2.f2)] 40 (0, 0))) := ⟨by rw [← hq_]; exact (PK BK263)⟩; replace HB : Aside0 (Below w.heap.size w wr) := ⟨by rw [← hq_]; exact PB⟩; clear hq_))) | ((with_reducible refine gate_dst (N := 14) rfl ?_); refine bx_ (N := 14) #[.int .i64 0, .int .i64 0, .int .i64 0, .bool false] 85 ?_; intro gb265 hg w88 hbox hb; replace HO_5 := ak (Kd.N_below (Kd.N_elderB (PN HO_5) gb265 (Nat.le_of_eq hg.symm)) hb); replace HV262 := ak (Kd.V_below (Kd.V_elderB (PV HV262) gb265 (Nat.le_of_eq hg.symm)) hb); have BK265 := ak hbox; have GW265 := gy hg HB; have GE265 := gy hg HB; replace HB := bs HB hb; have NB247_265 := gm hg BK247; have NB265_247 := gn hg BK247; replace BK247 := kf BK247 hb; have NB248_265 := gm hg BK248; have NB265_248 := gn hg BK248; replace BK248 := kf BK248 hb; have NB258_265 := gm hg BK258; have NB265_258 := gn hg BK258; replace BK258 := kf BK258 hb; have NB263_265 := gm hg BK263; have NB265_263 := gn hg BK263; replace BK263 := kf BK263 hb; clear hb hbox hg; have hnb89 := NB265_247.out; have hnc89 := NB247_265.out; have hnb90 := NB265_248.out; have hnc90 := NB248_265.out; have hnb91 := NB265_258.out; have hnc91 := NB258_265.out; have hnb92 := NB265_263.out; have hnc92 := NB263_265.out; obtain ⟨hcz93_0, hcz93_1, hcz93_2, hcz93_3, hfz93_0, hfz93_1, hfz93_2, hfz93_3⟩ := bc4 BK265))
                    generalize hW_ : ((((w88.setCell ⟨gb265, 0, none⟩ (.int .i64 t264)).setCell ⟨gb265, 1, none⟩ (.int .i64 x76_4)).setCell ⟨gb265, 2, none⟩ (.int .i64 0)).setCell ⟨gb265, 3, none⟩ (.bool false)) = w94
                    replace HO_5 : Aside0 (Kd.N k40 40 w94 w.heap.size (fun k_ => (P0_ k_ ∨ w.heap.size ≤ k_) ∧ k_ ≠ gb247 ∧ k_ ≠ gb248 ∧ k_ ≠ gb258 ∧ k_ ≠ gb263 ∧ k_ ≠ gb265) (.slice (some ad259) x5_2.length co60) x5_2) := ⟨by rw [← hW_]; exact NX (Kd.N_mono HO_5.out (fun k_ hk => (⟨hk, hk.2⟩ : _ ∧ k_ ≠ gb265))) (fun _ hk => ⟨hk.1.1.1, ⟨hk.1.1.2.1, ⟨hk.1.1.2.2.1, ⟨hk.1.1.2.2.2.1, ⟨hk.1.1.2.2.2.2, hk.1.2⟩⟩⟩⟩⟩)⟩
                    replace HV262 : Aside0 (Kd.V (Kd.int .i64) 3 w94 w.heap.size (fun _ => True) (.slice A262_5 ((rd_T40 x5_2 x67_3).f2.f1).length c262_5) ((rd_T40 x5_2 x67_3).f2.f1)) := ⟨by rw [← hW_]; exact VX HV262.out (fun _ _ => trivial)⟩
                    replace BK247 := BE hW_ BK247
                    replace BK248 := BE hW_ BK248
                    replace BK258 := BE hW_ BK258
                    replace BK263 := BE hW_ BK263
                    replace BK265 : Aside0 (w94.heap[gb265]? = some (.cells #[.int .i64 t264, .int .i64 x76_4, .int .i64 0, .bool false] 85 (0, 0))) := BP hW_ BK265
                    replace HB := BL hW_ HB
                    (try clear hW_)
                    replace HO_5 := ak (Kd.N_drew HO_5.out)
                    replace HV262 := ak (Kd.V_drew HV262.out)
                    replace BK247 := ak (blk_drew BK247.out)
                    replace BK248 := ak (blk_drew BK248.out)
                    replace BK258 := ak (blk_drew BK258.out)
                    replace BK263 := ak (blk_drew BK263.out)
                    replace BK265 := ak (blk_drew BK265.out)
                    replace HB := ak (below_drew1 HB.out)
                    refine start_ (n := 9) (S := fun w' => w'.cell? ⟨gb265, 0, none⟩ = some (.int .i64 t264) ∧ w'.cell? ⟨gb265, 1, none⟩ = some (.int .i64 x76_4) ∧ w'.cell? ⟨gb265, 2, none⟩ = some (.int .i64 0) ∧ w'.cell? ⟨gb265, 3, none⟩ = some (.bool false) ∧ w'.cell? ⟨gb263, 0, none⟩ = some (.int .i64 ((rd_T40 x5_2 x67_3).f0.f0)) ∧ w'.cell? ⟨gb263, 1, none⟩ = some (.int .i64 ((rd_T40 x5_2 x67_3).f0.f1)) ∧ w'.cell? ⟨gb263, 2, none⟩ = some (.int .i64 ((rd_T40 x5_2 x67_3).f0.f2)) ∧ w'.cell? ⟨gb263, 3, none⟩ = some (.int .i64 ((rd_T40 x5_2 x67_3).f1)) ∧ w'.cell? ⟨gb263, 4, none⟩ = some (.int .i64 ((rd_T40 x5_2 x67_3).f2.f0)) ∧ w'.cell? ⟨gb263, 5, none⟩ = some (.slice A262_5 ((rd_T40 x5_2 x67_3).f2.f1).length c262_5) ∧ w'.cell? ⟨gb263, 6, none⟩ = some (.int .i64 ((rd_T40 x5_2 x67_3).f2.f2.f0)) ∧ w'.cell? ⟨gb263, 7, none⟩ = some (.int .i64 ((rd_T40 x5_2 x67_3).f2.f2.f1)) ∧ w'.cell? ⟨gb263, 8, none⟩ = some (.int .i64 ((rd_T40 x5_2 x67_3).f2.f2.f2))) (ds := []) b8_9 KR rfl rfl ⟨(blk_cell BK265.out 0).trans rfl, (blk_cell BK265.out 1).trans rfl, (blk_cell BK265.out 2).trans rfl, (blk_cell BK265.out 3).trans rfl, (blk_cell BK263.out 0).trans rfl, (blk_cell BK263.out 1).trans rfl, (blk_cell BK263.out 2).trans rfl, (blk_cell BK263.out 3).trans rfl, (blk_cell BK263.out 4).trans rfl, (blk_cell BK263.out 5).trans rfl, (blk_cell BK263.out 6).trans rfl, (blk_cell BK263.out 7).trans rfl, (blk_cell BK263.out 8).trans rfl⟩ (fun hHeld => ?_); refine with_tabW impl_LearnForm.tab23 impl_LearnForm.bits23 (fun HT_ HW_ => ?_)
                    generalize w94.drew = w95 at HO_5 HV262 BK247 BK248 BK258 BK263 BK265 HB hHeld ⊢
                    refine pu_ (i := 1) (N := some 88) b8_8 HT_ ?_
                    refine pu_ (i := 2) (N := some 89) b8_7 HT_ ?_
                    refine pu_ (i := 5) (N := some 92) b8_6 HT_ ?_
                    refine tk_ (i := 0) (N := some 87) b8_5 rfl rfl HT_ HW_ hHeld ?_
                    refine take_ (i := 3) (N := some 90) (v := ?_) (a' := ?_) b8_4 rfl rfl (take_ofW HT_.out HW_.out KR) (fun _ _ _ h => h) (Or.inl ⟨by rfl, ?_⟩) hHeld ?_ ?_
                    rotate_left
                    ·rintro w' ⟨s0, s1, s2, s3, s4, s5, s6, s7, s8, s9, s10, s11, s12⟩
                     go_simp
                     with_reducible rfl
                    rotate_left
                    ·simp only [Act.put, List.setIfInBounds_toArray, List.set_cons_zero, List.set_cons_succ, i64_w, i32_w]
                     rfl
                    refine tk_ (i := 6) (N := some 93) b8_3 rfl rfl HT_ HW_ hHeld ?_
                    refine one_ (i := 4) (N := some 91) b8_2 rfl rfl (one_of HT_.out KR) (by decide) (fun K hK => ?_)
                    refine goes_ Try.func116 KR rfl #[.agg #[.int .i64 t264, .int .i64 x76_4, .int .i64 0, .bool false], .int .i64 ((rd_T40 x5_2 x67_3).f0.f2)] (by rfl) rfl rfl AR ?_
                    with_reducible refine (impl_Model_says.calls t264 x76_4 0 false ((rd_T40 x5_2 x67_3).f0.f2) t266 _ A85.out).mono ?_
                    rintro e w96 ⟨rfl, hb⟩
                    refine ⟨_, rfl, ?_⟩
                    replace HO_5 := Nb HO_5 hb
                    replace HV262 := Vb HV262 hb
                    replace BK247 := kf BK247 hb
                    replace BK248 := kf BK248 hb
                    replace BK258 := kf BK258 hb
                    replace BK263 := kf BK263 hb
                    replace BK265 := kf BK265 hb
                    replace HB := bs HB hb
                    (try clear hb)
                    (try clear hb2)
                    (try clear hk)
                    (try clear hi)
                    refine hK.out _ _ ⟨(blk_cell BK265.out 0).trans rfl, (blk_cell BK265.out 1).trans rfl, (blk_cell BK265.out 2).trans rfl, (blk_cell BK265.out 3).trans rfl, (blk_cell BK263.out 0).trans rfl, (blk_cell BK263.out 1).trans rfl, (blk_cell BK263.out 2).trans rfl, (blk_cell BK263.out 3).trans rfl, (blk_cell BK263.out 4).trans rfl, (blk_cell BK263.out 5).trans rfl, (blk_cell BK263.out 6).trans rfl, (blk_cell BK263.out 7).trans rfl, (blk_cell BK263.out 8).trans rfl⟩ (fun hHeld => ?_)
                    clear hK K
                    refine norm_ (a' := ?_) ?_ ?_
                    rotate_left
                    ·show Act.put _ (some 91) _ = _
                     simp only [Act.put, List.setIfInBounds_toArray, List.set_cons_zero, List.set_cons_succ, i64_w, i32_w]
                     rfl
                    refine one_ (i := 7) (N := some 94) b8_1 rfl rfl (one_of HT_.out KR) (by decide) (fun K hK => ?_)
                    refine goes_ Try.func35 KR rfl #[.agg #[.int .i64 ((rd_T40 x5_2 x67_3).f2.f0), .slice A262_5 ((rd_T40 x5_2 x67_3).f2.f1).length c262_5, .int .i64 ((rd_T40 x5_2 x67_3).f2.f2.f0), .int .i64 ((rd_T40 x5_2 x67_3).f2.f2.f1), .int .i64 ((rd_T40 x5_2 x67_3).f2.f2.f2)]] (by rfl) rfl rfl AR ?_
                    with_reducible refine (impl_ValueOfResource.calls k4 ((rd_T40 x5_2 x67_3).f2.f0) _ _ ((rd_T40 x5_2 x67_3).f2.f1) ((rd_T40 x5_2 x67_3).f2.f2.f0) ((rd_T40 x5_2 x67_3).f2.f2.f1) ((rd_T40 x5_2 x67_3).f2.f2.f2) t267 _ ?side1 ?side2 A86.out).mono ?_
                    (case side1 => exact CR ((Kd.V_reads' HV262.out).2.2))
                    (case side2 => exact HC262_5.out)
                    rintro e w97 ⟨rfl, hb⟩
                    refine ⟨_, rfl, ?_⟩
                    replace HO_5 := Nb HO_5 hb
                    replace HV262 := Vb HV262 hb
                    replace BK247 := kf BK247 hb
                    replace BK248 := kf BK248 hb
                    replace BK258 := kf BK258 hb
                    replace BK263 := kf BK263 hb
                    replace BK265 := kf BK265 hb
                    replace HB := bs HB hb
                    (try clear hb)
                    (try clear hb2)
                    (try clear hk)
                    (try clear hi)
                    refine hK.out _ _ ⟨(blk_cell BK265.out 0).trans rfl, (blk_cell BK265.out 1).trans rfl, (blk_cell BK265.out 2).trans rfl, (blk_cell BK265.out 3).trans rfl, (blk_cell BK263.out 0).trans rfl, (blk_cell BK263.out 1).trans rfl, (blk_cell BK263.out 2).trans rfl, (blk_cell BK263.out 3).trans rfl, (blk_cell BK263.out 4).trans rfl, (blk_cell BK263.out 5).trans rfl, (blk_cell BK263.out 6).trans rfl, (blk_cell BK263.out 7).trans rfl, (blk_cell BK263.out 8).trans rfl⟩ (fun hHeld => ?_)
                    clear hK K
                    refine norm_ (a' := ?_) ?_ ?_
                    rotate_left
                    ·show Act.put _ (some 94) _ = _
                     simp only [Act.put, List.setIfInBounds_toArray, List.set_cons_zero, List.set_cons_succ, i64_w, i32_w]
                     rfl
                    refine pu_ (i := 8) (N := some 95) b8_0 HT_ ?_
                    refine done_ (done_of HT_.out KR) ?_
                    obtain ⟨hcz98_0, hcz98_1, hcz98_2, hcz98_3, hfz98_0, hfz98_1, hfz98_2, hfz98_3⟩ := bc4 BK265
                    have hnb99 := NB258_247.out
                    have hnc99 := NB247_258.out
                    have hnb100 := NB258_248.out
                    have hnc100 := NB248_258.out
                    have hnb101 := NB258_263.out
                    have hnc101 := NB263_258.out
                    obtain ⟨hcz102_0, hcz102_1, hcz102_2, hcz102_3, hfz102_0, hfz102_1, hfz102_2, hfz102_3⟩ := bc4 BK258
                    try go_wp2
                    go_meet
                    case rel => exact ⟨_, (t264), (x76_4), H', ⟨by have := HJ2.out; have := HK2.out; have := HK3.out; have := HK4.out; first | omega | exact Nat.le_refl _⟩, ⟨NX (Kd.N_mono HO_5.out (fun k_ hk => (⟨hk, hk.2.2.2.1⟩ : _ ∧ k_ ≠ gb258))) (fun _ hk => ⟨hk.1.1, ⟨hk.1.2.1, ⟨hk.1.2.2.1, hk.1.2.2.2.1⟩⟩⟩)⟩, ⟨PF BK247⟩, ⟨PF BK248⟩, ⟨PX BK258⟩, ⟨PB⟩⟩
                   ·rw [if_neg c87] at H
                    have c87b0 : (t266 == t267) = false := beq_eq_false_iff_ne.mpr c87
                    have c87b1 : (t266 != t267) = true := bne_iff_ne.mpr c87
                    have H' := Aside0.mk H
                    clear H
                    try go_wp2_with (first | ((with_reducible refine gate_callee (f := 87) rfl ?_); refine goesL_ (some 84) rfl rfl Try.func87 KR rfl #[.int .i64 (wrap64 (t261 - (wrap64 (x76_4 * ((rd_T40 x5_2 0).f0.f2))))), .int .i64 1000] rfl AR ?_; (with_reducible refine (impl_Mod.calls (wrap64 (t261 - (wrap64 (x76_4 * ((rd_T40 x5_2 0).f0.f2))))) 1000 t264 _ A84.out).mono ?_); rintro e w' ⟨rfl, ⟨nd, rfl⟩⟩; refine ⟨_, rfl, ?_⟩; (try (rw [drewN_self wr]; generalize hq_ : World.drewN wr _ = wr; replace HO_5 : Aside0 (Kd.N k40 40 wr w.heap.size (fun k_ => (P0_ k_ ∨ w.heap.size ≤ k_) ∧ k_ ≠ gb247 ∧ k_ ≠ gb248 ∧ k_ ≠ gb258 ∧ k_ ≠ gb263) (.slice (some ad259) x5_2.length co60) x5_2) := ⟨by rw [← hq_]; exact (PN HO_5)⟩; replace HV262 : Aside0 (Kd.V (Kd.int .i64) 3 wr w.heap.size (fun _ => True) (.slice A262_5 ((rd_T40 x5_2 x67_3).f2.f1).length c262_5) ((rd_T40 x5_2 x67_3).f2.f1)) := ⟨by rw [← hq_]; exact (PV HV262)⟩; replace BK247 : Aside0 (wr.heap[gb247]? = some (.cells #[.int .i64 a1_0, .int .i64 a1_1, .int .i64 a1_2] 26 (0, 0))) := ⟨by rw [← hq_]; exact (PK BK247)⟩; replace BK248 : Aside0 (wr.heap[gb248]? = some (.cells #[.int .i64 0, .int .i64 0, .int .i64 0, .bool false] 85 (0, 0))) := ⟨by rw [← hq_]; exact (PK BK248)⟩; replace BK258 : Aside0 (wr.heap[gb258]? = some (.cells #[.int .i64 x259000_4, .int .i64 x259001_4, .int .i64 (x5_2.length : Int), .bool true] 85 (0, 0))) := ⟨by rw [← hq_]; exact (PK BK258)⟩; replace BK263 : Aside0 (wr.heap[gb263]? = some (.cells #[.int .i64 ((rd_T40 x5_2 x67_3).f0.f0), .int .i64 ((rd_T40 x5_2 x67_3).f0.f1), .int .i64 ((rd_T40 x5_2 x67_3).f0.f2), .int .i64 ((rd_T40 x5_2 x67_3).f1), .int .i64 ((rd_T40 x5_2 x67_3).f2.f0), .slice A262_5 ((rd_T40 x5_2 x67_3).f2.f1).length c262_5, .int .i64 ((rd_T40 x5_2 x67_3).f2.f2.f0), .int .i64 ((rd_T40 x5_2 x67_3).f2.f2.f1), .int .i64 ((rd_T40 x5_2 x67_3).f2.f2.f2)] 40 (0, 0))) := ⟨by rw [← hq_]; exact (PK BK263)⟩; replace HB : Aside0 (Below w.heap.size w wr) := ⟨by rw [← hq_]; exact PB⟩; clear hq_))) | ((with_reducible refine gate_dst (N := 14) rfl ?_); refine bx_ (N := 14) #[.int .i64 0, .int .i64 0, .int .i64 0, .bool false] 85 ?_; intro gb265 hg w103 hbox hb; replace HO_5 := ak (Kd.N_below (Kd.N_elderB (PN HO_5) gb265 (Nat.le_of_eq hg.symm)) hb); replace HV262 := ak (Kd.V_below (Kd.V_elderB (PV HV262) gb265 (Nat.le_of_eq hg.symm)) hb); have BK265 := ak hbox; have GW265 := gy hg HB; have GE265 := gy hg HB; replace HB := bs HB hb; have NB247_265 := gm hg BK247; have NB265_247 := gn hg BK247; replace BK247 := kf BK247 hb; have NB248_265 := gm hg BK248; have NB265_248 := gn hg BK248; replace BK248 := kf BK248 hb; have NB258_265 := gm hg BK258; have NB265_258 := gn hg BK258; replace BK258 := kf BK258 hb; have NB263_265 := gm hg BK263; have NB265_263 := gn hg BK263; replace BK263 := kf BK263 hb; clear hb hbox hg; have hnb104 := NB265_247.out; have hnc104 := NB247_265.out; have hnb105 := NB265_248.out; have hnc105 := NB248_265.out; have hnb106 := NB265_258.out; have hnc106 := NB258_265.out; have hnb107 := NB265_263.out; have hnc107 := NB263_265.out; obtain ⟨hcz108_0, hcz108_1, hcz108_2, hcz108_3, hfz108_0, hfz108_1, hfz108_2, hfz108_3⟩ := bc4 BK265))
                    generalize hW_ : ((((w103.setCell ⟨gb265, 0, none⟩ (.int .i64 t264)).setCell ⟨gb265, 1, none⟩ (.int .i64 x76_4)).setCell ⟨gb265, 2, none⟩ (.int .i64 0)).setCell ⟨gb265, 3, none⟩ (.bool false)) = w109
                    replace HO_5 : Aside0 (Kd.N k40 40 w109 w.heap.size (fun k_ => (P0_ k_ ∨ w.heap.size ≤ k_) ∧ k_ ≠ gb247 ∧ k_ ≠ gb248 ∧ k_ ≠ gb258 ∧ k_ ≠ gb263 ∧ k_ ≠ gb265) (.slice (some ad259) x5_2.length co60) x5_2) := ⟨by rw [← hW_]; exact NX (Kd.N_mono HO_5.out (fun k_ hk => (⟨hk, hk.2⟩ : _ ∧ k_ ≠ gb265))) (fun _ hk => ⟨hk.1.1.1, ⟨hk.1.1.2.1, ⟨hk.1.1.2.2.1, ⟨hk.1.1.2.2.2.1, ⟨hk.1.1.2.2.2.2, hk.1.2⟩⟩⟩⟩⟩)⟩
                    replace HV262 : Aside0 (Kd.V (Kd.int .i64) 3 w109 w.heap.size (fun _ => True) (.slice A262_5 ((rd_T40 x5_2 x67_3).f2.f1).length c262_5) ((rd_T40 x5_2 x67_3).f2.f1)) := ⟨by rw [← hW_]; exact VX HV262.out (fun _ _ => trivial)⟩
                    replace BK247 := BE hW_ BK247
                    replace BK248 := BE hW_ BK248
                    replace BK258 := BE hW_ BK258
                    replace BK263 := BE hW_ BK263
                    replace BK265 : Aside0 (w109.heap[gb265]? = some (.cells #[.int .i64 t264, .int .i64 x76_4, .int .i64 0, .bool false] 85 (0, 0))) := BP hW_ BK265
                    replace HB := BL hW_ HB
                    (try clear hW_)
                    replace HO_5 := ak (Kd.N_drew HO_5.out)
                    replace HV262 := ak (Kd.V_drew HV262.out)
                    replace BK247 := ak (blk_drew BK247.out)
                    replace BK248 := ak (blk_drew BK248.out)
                    replace BK258 := ak (blk_drew BK258.out)
                    replace BK263 := ak (blk_drew BK263.out)
                    replace BK265 := ak (blk_drew BK265.out)
                    replace HB := ak (below_drew1 HB.out)
                    refine start_ (n := 9) (S := fun w' => w'.cell? ⟨gb265, 0, none⟩ = some (.int .i64 t264) ∧ w'.cell? ⟨gb265, 1, none⟩ = some (.int .i64 x76_4) ∧ w'.cell? ⟨gb265, 2, none⟩ = some (.int .i64 0) ∧ w'.cell? ⟨gb265, 3, none⟩ = some (.bool false) ∧ w'.cell? ⟨gb263, 0, none⟩ = some (.int .i64 ((rd_T40 x5_2 x67_3).f0.f0)) ∧ w'.cell? ⟨gb263, 1, none⟩ = some (.int .i64 ((rd_T40 x5_2 x67_3).f0.f1)) ∧ w'.cell? ⟨gb263, 2, none⟩ = some (.int .i64 ((rd_T40 x5_2 x67_3).f0.f2)) ∧ w'.cell? ⟨gb263, 3, none⟩ = some (.int .i64 ((rd_T40 x5_2 x67_3).f1)) ∧ w'.cell? ⟨gb263, 4, none⟩ = some (.int .i64 ((rd_T40 x5_2 x67_3).f2.f0)) ∧ w'.cell? ⟨gb263, 5, none⟩ = some (.slice A262_5 ((rd_T40 x5_2 x67_3).f2.f1).length c262_5) ∧ w'.cell? ⟨gb263, 6, none⟩ = some (.int .i64 ((rd_T40 x5_2 x67_3).f2.f2.f0)) ∧ w'.cell? ⟨gb263, 7, none⟩ = some (.int .i64 ((rd_T40 x5_2 x67_3).f2.f2.f1)) ∧ w'.cell? ⟨gb263, 8, none⟩ = some (.int .i64 ((rd_T40 x5_2 x67_3).f2.f2.f2))) (ds := []) b8_9 KR rfl rfl ⟨(blk_cell BK265.out 0).trans rfl, (blk_cell BK265.out 1).trans rfl, (blk_cell BK265.out 2).trans rfl, (blk_cell BK265.out 3).trans rfl, (blk_cell BK263.out 0).trans rfl, (blk_cell BK263.out 1).trans rfl, (blk_cell BK263.out 2).trans rfl, (blk_cell BK263.out 3).trans rfl, (blk_cell BK263.out 4).trans rfl, (blk_cell BK263.out 5).trans rfl, (blk_cell BK263.out 6).trans rfl, (blk_cell BK263.out 7).trans rfl, (blk_cell BK263.out 8).trans rfl⟩ (fun hHeld => ?_); refine with_tabW impl_LearnForm.tab23 impl_LearnForm.bits23 (fun HT_ HW_ => ?_)
                    generalize w109.drew = w110 at HO_5 HV262 BK247 BK248 BK258 BK263 BK265 HB hHeld ⊢
                    refine pu_ (i := 1) (N := some 88) b8_8 HT_ ?_
                    refine pu_ (i := 2) (N := some 89) b8_7 HT_ ?_
                    refine pu_ (i := 5) (N := some 92) b8_6 HT_ ?_
                    refine tk_ (i := 0) (N := some 87) b8_5 rfl rfl HT_ HW_ hHeld ?_
                    refine take_ (i := 3) (N := some 90) (v := ?_) (a' := ?_) b8_4 rfl rfl (take_ofW HT_.out HW_.out KR) (fun _ _ _ h => h) (Or.inl ⟨by rfl, ?_⟩) hHeld ?_ ?_
                    rotate_left
                    ·rintro w' ⟨s0, s1, s2, s3, s4, s5, s6, s7, s8, s9, s10, s11, s12⟩
                     go_simp
                     with_reducible rfl
                    rotate_left
                    ·simp only [Act.put, List.setIfInBounds_toArray, List.set_cons_zero, List.set_cons_succ, i64_w, i32_w]
                     rfl
                    refine tk_ (i := 6) (N := some 93) b8_3 rfl rfl HT_ HW_ hHeld ?_
                    refine one_ (i := 4) (N := some 91) b8_2 rfl rfl (one_of HT_.out KR) (by decide) (fun K hK => ?_)
                    refine goes_ Try.func116 KR rfl #[.agg #[.int .i64 t264, .int .i64 x76_4, .int .i64 0, .bool false], .int .i64 ((rd_T40 x5_2 x67_3).f0.f2)] (by rfl) rfl rfl AR ?_
                    with_reducible refine (impl_Model_says.calls t264 x76_4 0 false ((rd_T40 x5_2 x67_3).f0.f2) t266 _ A85.out).mono ?_
                    rintro e w111 ⟨rfl, hb⟩
                    refine ⟨_, rfl, ?_⟩
                    replace HO_5 := Nb HO_5 hb
                    replace HV262 := Vb HV262 hb
                    replace BK247 := kf BK247 hb
                    replace BK248 := kf BK248 hb
                    replace BK258 := kf BK258 hb
                    replace BK263 := kf BK263 hb
                    replace BK265 := kf BK265 hb
                    replace HB := bs HB hb
                    (try clear hb)
                    (try clear hb2)
                    (try clear hk)
                    (try clear hi)
                    refine hK.out _ _ ⟨(blk_cell BK265.out 0).trans rfl, (blk_cell BK265.out 1).trans rfl, (blk_cell BK265.out 2).trans rfl, (blk_cell BK265.out 3).trans rfl, (blk_cell BK263.out 0).trans rfl, (blk_cell BK263.out 1).trans rfl, (blk_cell BK263.out 2).trans rfl, (blk_cell BK263.out 3).trans rfl, (blk_cell BK263.out 4).trans rfl, (blk_cell BK263.out 5).trans rfl, (blk_cell BK263.out 6).trans rfl, (blk_cell BK263.out 7).trans rfl, (blk_cell BK263.out 8).trans rfl⟩ (fun hHeld => ?_)
                    clear hK K
                    refine norm_ (a' := ?_) ?_ ?_
                    rotate_left
                    ·show Act.put _ (some 91) _ = _
                     simp only [Act.put, List.setIfInBounds_toArray, List.set_cons_zero, List.set_cons_succ, i64_w, i32_w]
                     rfl
                    refine one_ (i := 7) (N := some 94) b8_1 rfl rfl (one_of HT_.out KR) (by decide) (fun K hK => ?_)
                    refine goes_ Try.func35 KR rfl #[.agg #[.int .i64 ((rd_T40 x5_2 x67_3).f2.f0), .slice A262_5 ((rd_T40 x5_2 x67_3).f2.f1).length c262_5, .int .i64 ((rd_T40 x5_2 x67_3).f2.f2.f0), .int .i64 ((rd_T40 x5_2 x67_3).f2.f2.f1), .int .i64 ((rd_T40 x5_2 x67_3).f2.f2.f2)]] (by rfl) rfl rfl AR ?_
                    with_reducible refine (impl_ValueOfResource.calls k4 ((rd_T40 x5_2 x67_3).f2.f0) _ _ ((rd_T40 x5_2 x67_3).f2.f1) ((rd_T40 x5_2 x67_3).f2.f2.f0) ((rd_T40 x5_2 x67_3).f2.f2.f1) ((rd_T40 x5_2 x67_3).f2.f2.f2) t267 _ ?side1 ?side2 A86.out).mono ?_
                    (case side1 => exact CR ((Kd.V_reads' HV262.out).2.2))
                    (case side2 => exact HC262_5.out)
                    rintro e w112 ⟨rfl, hb⟩
                    refine ⟨_, rfl, ?_⟩
                    replace HO_5 := Nb HO_5 hb
                    replace HV262 := Vb HV262 hb
                    replace BK247 := kf BK247 hb
                    replace BK248 := kf BK248 hb
                    replace BK258 := kf BK258 hb
                    replace BK263 := kf BK263 hb
                    replace BK265 := kf BK265 hb
                    replace HB := bs HB hb
                    (try clear hb)
                    (try clear hb2)
                    (try clear hk)
                    (try clear hi)
                    refine hK.out _ _ ⟨(blk_cell BK265.out 0).trans rfl, (blk_cell BK265.out 1).trans rfl, (blk_cell BK265.out 2).trans rfl, (blk_cell BK265.out 3).trans rfl, (blk_cell BK263.out 0).trans rfl, (blk_cell BK263.out 1).trans rfl, (blk_cell BK263.out 2).trans rfl, (blk_cell BK263.out 3).trans rfl, (blk_cell BK263.out 4).trans rfl, (blk_cell BK263.out 5).trans rfl, (blk_cell BK263.out 6).trans rfl, (blk_cell BK263.out 7).trans rfl, (blk_cell BK263.out 8).trans rfl⟩ (fun hHeld => ?_)
                    clear hK K
                    refine norm_ (a' := ?_) ?_ ?_
                    rotate_left
                    ·show Act.put _ (some 94) _ = _
                     simp only [Act.put, List.setIfInBounds_toArray, List.set_cons_zero, List.set_cons_succ, i64_w, i32_w]
                     rfl
                    refine pu_ (i := 8) (N := some 95) b8_0 HT_ ?_
                    refine done_ (done_of HT_.out KR) ?_
                    try go_wp2
                    go_roundg k4
                    case measure => have := HJ2.out; have := HK2.out; have := HK3.out; have := HK4.out; omega
                    case rel => exact ⟨(wrap64 (x76_4 + 1)), (x259000_4), (x259001_4), (by first | rfl | (simp; done) | (simp [*]; done)), H', ⟨by have := HJ2.out; have := HK2.out; have := HK3.out; have := HK4.out; omega⟩, ⟨NX HO_5.out (fun _ hk => ⟨hk.1, ⟨hk.2.1, ⟨hk.2.2.1, ⟨hk.2.2.2.1, hk.2.2.2.2.1⟩⟩⟩⟩)⟩, ⟨VX HV262.out (fun _ _ => trivial)⟩, ⟨PK BK247⟩, ⟨PK BK248⟩, ⟨PK BK258⟩, ⟨PK BK263⟩, ⟨PB⟩⟩
                  ·rw [if_neg c83] at H
                   have c83b0 : decide (x76_4 < 1000) = false := decide_eq_false c83
                   clear c83
                   have H' := Aside0.mk H
                   clear H
                   go_wp2
                   go_meet
                   case rel => exact ⟨_, (x259000_4), (x259001_4), H', ⟨by have := HJ2.out; have := HK2.out; have := HK3.out; have := HK4.out; first | omega | exact Nat.le_refl _⟩, ⟨NX HO_5.out (fun _ hk => ⟨hk.1, ⟨hk.2.1, ⟨hk.2.2.1, hk.2.2.2.1⟩⟩⟩)⟩, ⟨PK BK247⟩, ⟨PK BK248⟩, ⟨PK BK258⟩, ⟨PB⟩⟩
              ·rw [if_neg c71] at H
               exact absurd H (by simp)
             ·rw [if_neg c70] at H
              exact absurd H (by simp)
            ·rw [if_neg c69] at H
             have c69b0 : decide (x67_3 < (x5_2.length : Int)) = false := decide_eq_false c69
             clear c69
             (first | rw [c69b0] | (simp only [i64_w, i32_w]; rw [c69b0]) | skip)
             have H' := Aside0.mk H
             clear H
             go_wp2
             go_meet
             case rel => exact ⟨_, (x259000_3), (x259001_3), H', ⟨by have := HJ2.out; have := HK2.out; have := HK3.out; first | omega | exact Nat.le_refl _⟩, ⟨PN HO_5⟩, ⟨PK BK247⟩, ⟨PK BK248⟩, ⟨PK BK258⟩, ⟨PB⟩⟩
         case rest =>
          clear HC59
          (try clear c1); (try clear c2); (try clear p2); (try clear q2); (try clear hx2); (try clear c3); (try clear c6); (try clear p6); (try clear c7); (try clear c8); (try clear c9); (try clear c10); (try clear c11); (try clear p25); (try clear q25); (try clear hx25); (try clear c26); (try clear p26); (try clear q26); (try clear hx26); (try clear c35); (try clear p64); (try clear c69); (try clear c69b0); (try clear c70); (try clear c71); (try clear c83); (try clear c83b0); (try clear c87); (try clear c87b0); (try clear c87b1); (try clear c89); (try clear c90); (try clear c91); (try clear c92); (try clear c99); (try clear c100); (try clear c101); (try clear c104); (try clear c105); (try clear c106); (try clear c107); (try clear hcz102_0); (try clear hcz102_1); (try clear hcz102_2); (try clear hcz102_3); (try clear hcz108_0); (try clear hcz108_1); (try clear hcz108_2); (try clear hcz108_3); (try clear hcz93_0); (try clear hcz93_1); (try clear hcz93_2); (try clear hcz93_3); (try clear hcz98_0); (try clear hcz98_1); (try clear hcz98_2); (try clear hcz98_3); (try clear hfz102_0); (try clear hfz102_1); (try clear hfz102_2); (try clear hfz102_3); (try clear hfz108_0); (try clear hfz108_1); (try clear hfz108_2); (try clear hfz108_3); (try clear hfz16_0); (try clear hfz16_1); (try clear hfz16_2); (try clear hfz16_3); (try clear hfz28_0); (try clear hfz28_1); (try clear hfz28_2); (try clear hfz28_3); (try clear hfz28_4); (try clear hfz28_5); (try clear hfz28_6); (try clear hfz28_7); (try clear hfz28_8); (try clear hfz30_0); (try clear hfz30_1); (try clear hfz30_2); (try clear hfz32_0); (try clear hfz32_1); (try clear hfz32_2); (try clear hfz32_3); (try clear hfz32_4); (try clear hfz32_5); (try clear hfz32_6); (try clear hfz32_7); (try clear hfz32_8); (try clear hfz37_0); (try clear hfz37_1); (try clear hfz37_2); (try clear hfz37_3); (try clear hfz37_4); (try clear hfz37_5); (try clear hfz37_6); (try clear hfz37_7); (try clear hfz37_8); (try clear hfz39_0); (try clear hfz39_1); (try clear hfz39_2); (try clear hfz41_0); (try clear hfz41_1); (try clear hfz41_2); (try clear hfz41_3); (try clear hfz41_4); (try clear hfz41_5); (try clear hfz41_6); (try clear hfz41_7); (try clear hfz41_8); (try clear hfz45_0); (try clear hfz45_1); (try clear hfz45_2); (try clear hfz45_3); (try clear hfz45_4); (try clear hfz45_5); (try clear hfz45_6); (try clear hfz45_7); (try clear hfz45_8); (try clear hfz47_0); (try clear hfz47_1); (try clear hfz47_2); (try clear hfz54_0); (try clear hfz54_1); (try clear hfz54_2); (try clear hfz54_3); (try clear hfz56_0); (try clear hfz56_1); (try clear hfz56_2); (try clear hfz56_3); (try clear hfz64_0); (try clear hfz64_1); (try clear hfz64_2); (try clear hfz64_3); (try clear hfz68_0); (try clear hfz68_1); (try clear hfz68_2); (try clear hfz68_3); (try clear hfz77_0); (try clear hfz77_1); (try clear hfz77_2); (try clear hfz77_3); (try clear hfz77_4); (try clear hfz77_5); (try clear hfz77_6); (try clear hfz77_7); (try clear hfz77_8); (try clear hfz82_0); (try clear hfz82_1); (try clear hfz82_2); (try clear hfz82_3); (try clear hfz82_4); (try clear hfz82_5); (try clear hfz82_6); (try clear hfz82_7); (try clear hfz82_8); (try clear hfz93_0); (try clear hfz93_1); (try clear hfz93_2); (try clear hfz93_3); (try clear hfz98_0); (try clear hfz98_1); (try clear hfz98_2); (try clear hfz98_3); (try clear hx251_0); (try clear hx251_1); (try clear hx251_2); (try clear hx251_3); (try clear hx251_4); (try clear hx251_5); (try clear hx251_6); (try clear hx251_7); (try clear hx251_8); (try clear hx259_0); (try clear hx259_1); (try clear hx259_2); (try clear hx259_3); (try clear hx259_4); (try clear hx259_5); (try clear hx259_6); (try clear hx259_7); (try clear hx259_8); (try clear hx260_0); (try clear hx260_1); (try clear hx260_2); (try clear hx260_3); (try clear hx260_4); (try clear hx260_5); (try clear hx260_6); (try clear hx260_7); (try clear hx260_8); (try clear hx262_0); (try clear hx262_1); (try clear hx262_2); (try clear hx262_3); (try clear hx262_4); (try clear hx262_5); (try clear hx262_6); (try clear hx262_7); (try clear hx262_8); (try clear p2); (try clear p25); (try clear p251); (try clear p259); (try clear p26); (try clear p260); (try clear p262); (try clear p6); (try clear p64); (try clear q2); (try clear q25); (try clear q251); (try clear q259); (try clear q26); (try clear q260); (try clear q262)
          obtain ⟨kq, x259000_58, x259001_58, HA, HJ58, HO_5, BK247, BK248, BK258, HB⟩ := hcut
          cases kq with
          | zero => exact absurd HA.out (by simp [impl_LearnForm.j4])
          | succ kj58 =>
           have H := HA.out
           clear HA
           simp only [impl_LearnForm.j4] at H
           have H' := Aside0.mk H
           clear H
           go_wp2
           go_loopg [105] kj58 (fun kq v105 w' => ∃ (x105_4 : Int) (x259003_4 : Bool), v105 = .int .i64 x105_4 ∧ Aside0 (impl_LearnForm.l3 kq x5_2 (x5_2.length : Int) x105_4 x259000_58 x259001_58 (x5_2.length : Int) x259003_4 = some (r1, r2, r3, r4)) ∧ Aside0 (kq ≤ kj58) ∧ Aside0 (Kd.N k40 40 w' w.heap.size (fun k_ => (P0_ k_ ∨ w.heap.size ≤ k_) ∧ k_ ≠ gb247 ∧ k_ ≠ gb248 ∧ k_ ≠ gb258) (.slice (some ad259) x5_2.length co60) x5_2) ∧ Aside0 (w'.heap[gb247]? = some (.cells #[.int .i64 a1_0, .int .i64 a1_1, .int .i64 a1_2] 26 (0, 0))) ∧ Aside0 (w'.heap[gb248]? = some (.cells #[.int .i64 0, .int .i64 0, .int .i64 0, .bool false] 85 (0, 0))) ∧ Aside0 (w'.heap[gb258]? = some (.cells #[.int .i64 x259000_58, .int .i64 x259001_58, .int .i64 (x5_2.length : Int), .bool x259003_4] 85 (0, 0))) ∧ Aside0 (Below w.heap.size w w'))
           case atStart => exact ⟨(0), (true), (by first | rfl | (simp; done) | (simp [*]; done)), H', ⟨Nat.le_refl _⟩, ⟨PN HO_5⟩, ⟨PK BK247⟩, ⟨PK BK248⟩, ⟨PK BK258⟩, ⟨PB⟩⟩
           case round =>
            clear H'
            (try clear c1); (try clear c2); (try clear p2); (try clear q2); (try clear hx2); (try clear c3); (try clear c6); (try clear p6); (try clear c7); (try clear c8); (try clear c9); (try clear c10); (try clear c11); (try clear p25); (try clear q25); (try clear hx25); (try clear c26); (try clear p26); (try clear q26); (try clear hx26); (try clear c35); (try clear p64); (try clear c69); (try clear c69b0); (try clear c70); (try clear c71); (try clear c83); (try clear c83b0); (try clear c87); (try clear c87b0); (try clear c87b1); (try clear c89); (try clear c90); (try clear c91); (try clear c92); (try clear c99); (try clear c100); (try clear c101); (try clear c104); (try clear c105); (try clear c106); (try clear c107); (try clear hcz102_0); (try clear hcz102_1); (try clear hcz102_2); (try clear hcz102_3); (try clear hcz108_0); (try clear hcz108_1); (try clear hcz108_2); (try clear hcz108_3); (try clear hcz93_0); (try clear hcz93_1); (try clear hcz93_2); (try clear hcz93_3); (try clear hcz98_0); (try clear hcz98_1); (try clear hcz98_2); (try clear hcz98_3); (try clear hfz102_0); (try clear hfz102_1); (try clear hfz102_2); (try clear hfz102_3); (try clear hfz108_0); (try clear hfz108_1); (try clear hfz108_2); (try clear hfz108_3); (try clear hfz16_0); (try clear hfz16_1); (try clear hfz16_2); (try clear hfz16_3); (try clear hfz28_0); (try clear hfz28_1); (try clear hfz28_2); (try clear hfz28_3); (try clear hfz28_4); (try clear hfz28_5); (try clear hfz28_6); (try clear hfz28_7); (try clear hfz28_8); (try clear hfz30_0); (try clear hfz30_1); (try clear hfz30_2); (try clear hfz32_0); (try clear hfz32_1); (try clear hfz32_2); (try clear hfz32_3); (try clear hfz32_4); (try clear hfz32_5); (try clear hfz32_6); (try clear hfz32_7); (try clear hfz32_8); (try clear hfz37_0); (try clear hfz37_1); (try clear hfz37_2); (try clear hfz37_3); (try clear hfz37_4); (try clear hfz37_5); (try clear hfz37_6); (try clear hfz37_7); (try clear hfz37_8); (try clear hfz39_0); (try clear hfz39_1); (try clear hfz39_2); (try clear hfz41_0); (try clear hfz41_1); (try clear hfz41_2); (try clear hfz41_3); (try clear hfz41_4); (try clear hfz41_5); (try clear hfz41_6); (try clear hfz41_7); (try clear hfz41_8); (try clear hfz45_0); (try clear hfz45_1); (try clear hfz45_2); (try clear hfz45_3); (try clear hfz45_4); (try clear hfz45_5); (try clear hfz45_6); (try clear hfz45_7); (try clear hfz45_8); (try clear hfz47_0); (try clear hfz47_1); (try clear hfz47_2); (try clear hfz54_0); (try clear hfz54_1); (try clear hfz54_2); (try clear hfz54_3); (try clear hfz56_0); (try clear hfz56_1); (try clear hfz56_2); (try clear hfz56_3); (try clear hfz64_0); (try clear hfz64_1); (try clear hfz64_2); (try clear hfz64_3); (try clear hfz68_0); (try clear hfz68_1); (try clear hfz68_2); (try clear hfz68_3); (try clear hfz77_0); (try clear hfz77_1); (try clear hfz77_2); (try clear hfz77_3); (try clear hfz77_4); (try clear hfz77_5); (try clear hfz77_6); (try clear hfz77_7); (try clear hfz77_8); (try clear hfz82_0); (try clear hfz82_1); (try clear hfz82_2); (try clear hfz82_3); (try clear hfz82_4); (try clear hfz82_5); (try clear hfz82_6); (try clear hfz82_7); (try clear hfz82_8); (try clear hfz93_0); (try clear hfz93_1); (try clear hfz93_2); (try clear hfz93_3); (try clear hfz98_0); (try clear hfz98_1); (try clear hfz98_2); (try clear hfz98_3); (try clear hx251_0); (try clear hx251_1); (try clear hx251_2); (try clear hx251_3); (try clear hx251_4); (try clear hx251_5); (try clear hx251_6); (try clear hx251_7); (try clear hx251_8); (try clear hx259_0); (try clear hx259_1); (try clear hx259_2); (try clear hx259_3); (try clear hx259_4); (try clear hx259_5); (try clear hx259_6); (try clear hx259_7); (try clear hx259_8); (try clear hx260_0); (try clear hx260_1); (try clear hx260_2); (try clear hx260_3); (try clear hx260_4); (try clear hx260_5); (try clear hx260_6); (try clear hx260_7); (try clear hx260_8); (try clear hx262_0); (try clear hx262_1); (try clear hx262_2); (try clear hx262_3); (try clear hx262_4); (try clear hx262_5); (try clear hx262_6); (try clear hx262_7); (try clear hx262_8); (try clear p2); (try clear p25); (try clear p251); (try clear p259); (try clear p26); (try clear p260); (try clear p262); (try clear p6); (try clear p64); (try clear q2); (try clear q25); (try clear q251); (try clear q259); (try clear q26); (try clear q260); (try clear q262)
            obtain ⟨x105_4, x259003_4, rfl, HA, HK4, HO_103, BK247, BK248, BK258, HB⟩ := hrel
            cases gk with
            | zero => exact absurd HA.out (by simp [impl_LearnForm.l3])
            | succ k4 =>
             have H := HA.out
             clear HA
             simp only [impl_LearnForm.l3] at H
             by_cases c113 : x105_4 < (x5_2.length : Int)
             ·rw [if_pos c113] at H
              have c113b0 : decide (x105_4 < (x5_2.length : Int)) = true := decide_eq_true c113
              clear c113
              by_cases c114 : 0 ≤ x105_4
              ·rw [if_pos c114] at H
               have c114b0 : decide (0 ≤ x105_4) = true := decide_eq_true c114
               clear c114
               by_cases c115 : x105_4 < (x5_2.length : Int)
               ·rw [if_pos c115] at H
                have c115b0 : decide (x105_4 < (x5_2.length : Int)) = true := decide_eq_true c115
                clear c115
                by_cases c116 : x259003_4 = true
                ·subst c116
                 have H1 : ((impl_Model_says.f x259000_58 x259001_58 (x5_2.length : Int) true ((rd_T40 x5_2 x105_4).f0.f2)).bind fun t270 => ((impl_ValueOfResource.f k4 ((rd_T40 x5_2 x105_4).f2.f0) ((rd_T40 x5_2 x105_4).f2.f1) ((rd_T40 x5_2 x105_4).f2.f2.f0) ((rd_T40 x5_2 x105_4).f2.f2.f1) ((rd_T40 x5_2 x105_4).f2.f2.f2)).bind fun t271 => (impl_LearnForm.l3 k4 x5_2 (x5_2.length : Int) (wrap64 (x105_4 + 1)) x259000_58 x259001_58 (x5_2.length : Int) (t270 == t271)))) = some (r1, r2, r3, r4) := by rw [if_pos rfl] at H; exact H
                 clear H
                 have H := H1
                 clear H1
                 replace H := Option.bind_eq_some_iff.mp H
                 obtain ⟨t270, A1170, H⟩ := H
                 replace H : ((impl_ValueOfResource.f k4 ((rd_T40 x5_2 x105_4).f2.f0) ((rd_T40 x5_2 x105_4).f2.f1) ((rd_T40 x5_2 x105_4).f2.f2.f0) ((rd_T40 x5_2 x105_4).f2.f2.f1) ((rd_T40 x5_2 x105_4).f2.f2.f2)).bind fun t271 => (impl_LearnForm.l3 k4 x5_2 (x5_2.length : Int) (wrap64 (x105_4 + 1)) x259000_58 x259001_58 (x5_2.length : Int) (t270 == t271))) = some (r1, r2, r3, r4) := H
                 have A117 := Aside0.mk A1170
                 clear A1170
                 replace H := Option.bind_eq_some_iff.mp H
                 obtain ⟨t271, A1180, H⟩ := H
                 replace H : (impl_LearnForm.l3 k4 x5_2 (x5_2.length : Int) (wrap64 (x105_4 + 1)) x259000_58 x259001_58 (x5_2.length : Int) (t270 == t271)) = some (r1, r2, r3, r4) := H
                 have A118 := Aside0.mk A1180
                 clear A1180
                 have H' := Aside0.mk H
                 clear H
                 have p268 : 0 ≤ (x105_4 : Int) := of_decide_eq_true (by first | (with_reducible assumption) | assumption)
                 have q268 : x105_4 < (x5_2.length : Int) := of_decide_eq_true (by first | (with_reducible assumption) | assumption)
                 obtain ⟨ad268, A268_5, c268_5, e268, hx268_0, hx268_1, hx268_2, hx268_3, hx268_4, hx268_5, hx268_6, hx268_7, hx268_8, hl268_5, hi268_5⟩ := at_T40 (Kd.N_reads' HO_103.out).2.2 x105_4 p268 q268
                 obtain rfl : ad259 = ad268 := (by injection e268)
                 obtain ⟨ce268, hce268, hMe268, hcc268⟩ := Kd.N_get HO_103.out z40 x105_4 p268 (by first | exact q268 | exact of_decide_eq_true (by first | (with_reducible assumption) | assumption) | (have e_ := (Kd.N_reads' HO_103.out).1; omega))
                 obtain ⟨ua268_5, uc268_5, rfl, ul268_5, ge268_5⟩ := k40_openF hMe268
                 have hv268_5 := hcc268 5 _ rfl
                 rw [add_field _ _ 5 (by omega)] at hv268_5
                 replace hv268_5 := Option.some.inj (hv268_5.symm.trans hx268_5)
                 injection hv268_5 with hva_ hvn_ hvc_
                 rw [hva_] at ge268_5
                 rw [hvc_] at ul268_5
                 have HL268_5 := ak (show Kd.V (Kd.int .i64) 3 _ w.heap.size _ _ ((rd_T40 x5_2 x105_4).f2.f1) from Kd.V_mk ul268_5 ge268_5)
                 clear hva_ hvn_ hvc_ ge268_5 ul268_5
                 clear hcc268 hce268
                 have HR268_5 := Aside0.mk hi268_5
                 have HC268_5 := Aside0.mk hl268_5
                 clear hi268_5 hl268_5
                 replace p268 := eq_true p268
                 replace q268 := eq_true q268
                 try go_wp2_with (first | ((with_reducible refine gate_dst (N := 16) rfl ?_); refine bx_ (N := 16) #[.int .i64 0, .int .i64 0, .int .i64 0, .int .i64 0, .int .i64 0, .slice none 0 0, .int .i64 0, .int .i64 0, .int .i64 0] 40 ?_; intro gb269 hg w119 hbox hb; replace HO_103 := ak (Kd.N_below (Kd.N_elderB (PN HO_103) gb269 (Nat.le_of_eq hg.symm)) hb); replace HL268_5 := ak (Kd.V_below (Kd.V_elderB (PV HL268_5) gb269 (Nat.le_of_eq hg.symm)) hb); replace HR268_5 := Cb HR268_5 hb; have BK269 := ak hbox; have GW269 := gy hg HB; have GE269 := gy hg HB; replace HB := bs HB hb; have NB247_269 := gm hg BK247; have NB269_247 := gn hg BK247; replace BK247 := kf BK247 hb; have NB248_269 := gm hg BK248; have NB269_248 := gn hg BK248; replace BK248 := kf BK248 hb; have NB258_269 := gm hg BK258; have NB269_258 := gn hg BK258; replace BK258 := kf BK258 hb; clear hb hbox hg; have hnb120 := NB269_247.out; have hnc120 := NB247_269.out; have hnb121 := NB269_248.out; have hnc121 := NB248_269.out; have hnb122 := NB269_258.out; have hnc122 := NB258_269.out; obtain ⟨_, _, _, _, _, _, _, _, _, _, _, _, _, _, _, _, _, _⟩ := bc9 BK269))
                 generalize hW_ : (((((((((w119.setCell ⟨gb269, 0, none⟩ (.int .i64 ((rd_T40 x5_2 x105_4).f0.f0))).setCell ⟨gb269, 1, none⟩ (.int .i64 ((rd_T40 x5_2 x105_4).f0.f1))).setCell ⟨gb269, 2, none⟩ (.int .i64 ((rd_T40 x5_2 x105_4).f0.f2))).setCell ⟨gb269, 3, none⟩ (.int .i64 ((rd_T40 x5_2 x105_4).f1))).setCell ⟨gb269, 4, none⟩ (.int .i64 ((rd_T40 x5_2 x105_4).f2.f0))).setCell ⟨gb269, 5, none⟩ (.slice A268_5 ((rd_T40 x5_2 x105_4).f2.f1).length c268_5)).setCell ⟨gb269, 6, none⟩ (.int .i64 ((rd_T40 x5_2 x105_4).f2.f2.f0))).setCell ⟨gb269, 7, none⟩ (.int .i64 ((rd_T40 x5_2 x105_4).f2.f2.f1))).setCell ⟨gb269, 8, none⟩ (.int .i64 ((rd_T40 x5_2 x105_4).f2.f2.f2))) = w124
                 replace HO_103 : Aside0 (Kd.N k40 40 w124 w.heap.size (fun k_ => (P0_ k_ ∨ w.heap.size ≤ k_) ∧ k_ ≠ gb247 ∧ k_ ≠ gb248 ∧ k_ ≠ gb258 ∧ k_ ≠ gb269) (.slice (some ad259) x5_2.length co60) x5_2) := ⟨by rw [← hW_]; exact NX (Kd.N_mono HO_103.out (fun k_ hk => (⟨hk, hk.2⟩ : _ ∧ k_ ≠ gb269))) (fun _ hk => ⟨hk.1.1.1, ⟨hk.1.1.2.1, ⟨hk.1.1.2.2.1, ⟨hk.1.1.2.2.2, hk.1.2⟩⟩⟩⟩)⟩
                 replace HL268_5 : Aside0 (Kd.V (Kd.int .i64) 3 w124 w.heap.size (fun k_ => (P0_ k_ ∨ w.heap.size ≤ k_) ∧ some k_ ≠ (.slice (some ad259) x5_2.length co60 : Value).ownBlock ∧ k_ ≠ gb247 ∧ k_ ≠ gb248 ∧ k_ ≠ gb258 ∧ k_ ≠ gb269) (.slice A268_5 ((rd_T40 x5_2 x105_4).f2.f1).length c268_5) ((rd_T40 x5_2 x105_4).f2.f1)) := ⟨by rw [← hW_]; exact VX (Kd.V_mono HL268_5.out (fun k_ hk => (⟨hk, hk.2⟩ : _ ∧ k_ ≠ gb269))) (fun _ hk => ⟨hk.1.1.1.1, ⟨hk.1.1.2, ⟨hk.1.1.1.2.1, ⟨hk.1.1.1.2.2.1, ⟨hk.1.1.1.2.2.2, hk.1.2⟩⟩⟩⟩⟩)⟩
                 replace BK247 := BE hW_ BK247
                 replace BK248 := BE hW_ BK248
                 replace BK258 := BE hW_ BK258
                 replace BK269 : Aside0 (w124.heap[gb269]? = some (.cells #[.int .i64 ((rd_T40 x5_2 x105_4).f0.f0), .int .i64 ((rd_T40 x5_2 x105_4).f0.f1), .int .i64 ((rd_T40 x5_2 x105_4).f0.f2), .int .i64 ((rd_T40 x5_2 x105_4).f1), .int .i64 ((rd_T40 x5_2 x105_4).f2.f0), .slice A268_5 ((rd_T40 x5_2 x105_4).f2.f1).length c268_5, .int .i64 ((rd_T40 x5_2 x105_4).f2.f2.f0), .int .i64 ((rd_T40 x5_2 x105_4).f2.f2.f1), .int .i64 ((rd_T40 x5_2 x105_4).f2.f2.f2)] 40 (0, 0))) := BP hW_ BK269
                 replace HB := BL hW_ HB
                 (try clear hW_)
                 replace HO_103 := ak (Kd.N_drew HO_103.out)
                 replace HL268_5 := ak (Kd.V_drew HL268_5.out)
                 replace BK247 := ak (blk_drew BK247.out)
                 replace BK248 := ak (blk_drew BK248.out)
                 replace BK258 := ak (blk_drew BK258.out)
                 replace BK269 := ak (blk_drew BK269.out)
                 replace HB := ak (below_drew1 HB.out)
                 refine start_ (n := 15) (S := fun w' => w'.cell? ⟨gb258, 0, none⟩ = some (.int .i64 x259000_58) ∧ w'.cell? ⟨gb258, 1, none⟩ = some (.int .i64 x259001_58) ∧ w'.cell? ⟨gb258, 2, none⟩ = some (.int .i64 (x5_2.length : Int)) ∧ w'.cell? ⟨gb258, 3, none⟩ = some (.bool true) ∧ w'.cell? ⟨gb269, 0, none⟩ = some (.int .i64 ((rd_T40 x5_2 x105_4).f0.f0)) ∧ w'.cell? ⟨gb269, 1, none⟩ = some (.int .i64 ((rd_T40 x5_2 x105_4).f0.f1)) ∧ w'.cell? ⟨gb269, 2, none⟩ = some (.int .i64 ((rd_T40 x5_2 x105_4).f0.f2)) ∧ w'.cell? ⟨gb269, 3, none⟩ = some (.int .i64 ((rd_T40 x5_2 x105_4).f1)) ∧ w'.cell? ⟨gb269, 4, none⟩ = some (.int .i64 ((rd_T40 x5_2 x105_4).f2.f0)) ∧ w'.cell? ⟨gb269, 5, none⟩ = some (.slice A268_5 ((rd_T40 x5_2 x105_4).f2.f1).length c268_5) ∧ w'.cell? ⟨gb269, 6, none⟩ = some (.int .i64 ((rd_T40 x5_2 x105_4).f2.f2.f0)) ∧ w'.cell? ⟨gb269, 7, none⟩ = some (.int .i64 ((rd_T40 x5_2 x105_4).f2.f2.f1)) ∧ w'.cell? ⟨gb269, 8, none⟩ = some (.int .i64 ((rd_T40 x5_2 x105_4).f2.f2.f2))) (ds := [14]) b8_44 KR rfl rfl ⟨(blk_cell BK258.out 0).trans rfl, (blk_cell BK258.out 1).trans rfl, (blk_cell BK258.out 2).trans rfl, (blk_cell BK258.out 3).trans rfl, (blk_cell BK269.out 0).trans rfl, (blk_cell BK269.out 1).trans rfl, (blk_cell BK269.out 2).trans rfl, (blk_cell BK269.out 3).trans rfl, (blk_cell BK269.out 4).trans rfl, (blk_cell BK269.out 5).trans rfl, (blk_cell BK269.out 6).trans rfl, (blk_cell BK269.out 7).trans rfl, (blk_cell BK269.out 8).trans rfl⟩ (fun hHeld => ?_); refine with_tabW impl_LearnForm.tab30 impl_LearnForm.bits30 (fun HT_ HW_ => ?_)
                 generalize w124.drew = w125 at HO_103 HL268_5 BK247 BK248 BK258 BK269 HB hHeld ⊢
                 refine pu_ (i := 0) (N := some 109) b8_43 HT_ ?_
                 refine tk_ (i := 1) (N := some 110) b8_42 rfl rfl HT_ HW_ hHeld ?_
                 refine pu_ (i := 2) (N := some 111) b8_41 HT_ ?_
                 refine pu_ (i := 4) (N := some 113) #[true, true, true, false, true, false, false, false, false, false, false, false, false, false, false] HT_ ?_
                 refine pu_ (i := 5) (N := some 114) #[true, true, true, false, true, true, false, false, false, false, false, false, false, false, false] HT_ ?_
                 refine pu_ (i := 8) (N := some 117) #[true, true, true, false, true, true, false, false, true, false, false, false, false, false, false] HT_ ?_
                 refine tk_ (i := 3) (N := some 112) #[true, true, true, true, true, true, false, false, true, false, false, false, false, false, false] rfl rfl HT_ HW_ hHeld ?_
                 refine take_ (i := 6) (N := some 115) (v := ?_) (a' := ?_) #[true, true, true, true, true, true, true, false, true, false, false, false, false, false, false] rfl rfl (take_ofW HT_.out HW_.out KR) (fun _ _ _ h => h) (Or.inl ⟨by rfl, ?_⟩) hHeld ?_ ?_
                 rotate_left
                 ·rintro w' ⟨s0, s1, s2, s3, s4, s5, s6, s7, s8, s9, s10, s11, s12⟩
                  go_simp
                  with_reducible rfl
                 rotate_left
                 ·simp only [Act.put, List.setIfInBounds_toArray, List.set_cons_zero, List.set_cons_succ, i64_w, i32_w]
                  rfl
                 refine tk_ (i := 9) (N := some 118) #[true, true, true, true, true, true, true, false, true, true, false, false, false, false, false] rfl rfl HT_ HW_ hHeld ?_
                 refine one_ (i := 7) (N := some 116) b8_28 rfl rfl (one_of HT_.out KR) (by decide) (fun K hK => ?_)
                 refine goes_ Try.func116 KR rfl #[.agg #[.int .i64 x259000_58, .int .i64 x259001_58, .int .i64 (x5_2.length : Int), .bool true], .int .i64 ((rd_T40 x5_2 x105_4).f0.f2)] (by rfl) rfl rfl AR ?_
                 with_reducible refine (impl_Model_says.calls x259000_58 x259001_58 (x5_2.length : Int) true ((rd_T40 x5_2 x105_4).f0.f2) t270 _ A117.out).mono ?_
                 rintro e w126 ⟨rfl, hb⟩
                 refine ⟨_, rfl, ?_⟩
                 replace HO_103 := Nb HO_103 hb
                 replace HL268_5 := Vb HL268_5 hb
                 replace BK247 := kf BK247 hb
                 replace BK248 := kf BK248 hb
                 replace BK258 := kf BK258 hb
                 replace BK269 := kf BK269 hb
                 replace HB := bs HB hb
                 (try clear hb)
                 (try clear hb2)
                 (try clear hk)
                 (try clear hi)
                 refine hK.out _ _ ⟨(blk_cell BK258.out 0).trans rfl, (blk_cell BK258.out 1).trans rfl, (blk_cell BK258.out 2).trans rfl, (blk_cell BK258.out 3).trans rfl, (blk_cell BK269.out 0).trans rfl, (blk_cell BK269.out 1).trans rfl, (blk_cell BK269.out 2).trans rfl, (blk_cell BK269.out 3).trans rfl, (blk_cell BK269.out 4).trans rfl, (blk_cell BK269.out 5).trans rfl, (blk_cell BK269.out 6).trans rfl, (blk_cell BK269.out 7).trans rfl, (blk_cell BK269.out 8).trans rfl⟩ (fun hHeld => ?_)
                 clear hK K
                 refine norm_ (a' := ?_) ?_ ?_
                 rotate_left
                 ·show Act.put _ (some 116) _ = _
                  simp only [Act.put, List.setIfInBounds_toArray, List.set_cons_zero, List.set_cons_succ, i64_w, i32_w]
                  rfl
                 refine one_ (i := 10) (N := some 119) b8_27 rfl rfl (one_of HT_.out KR) (by decide) (fun K hK => ?_)
                 refine goes_ Try.func35 KR rfl #[.agg #[.int .i64 ((rd_T40 x5_2 x105_4).f2.f0), .slice A268_5 ((rd_T40 x5_2 x105_4).f2.f1).length c268_5, .int .i64 ((rd_T40 x5_2 x105_4).f2.f2.f0), .int .i64 ((rd_T40 x5_2 x105_4).f2.f2.f1), .int .i64 ((rd_T40 x5_2 x105_4).f2.f2.f2)]] (by rfl) rfl rfl AR ?_
                 with_reducible refine (impl_ValueOfResource.calls k4 ((rd_T40 x5_2 x105_4).f2.f0) _ _ ((rd_T40 x5_2 x105_4).f2.f1) ((rd_T40 x5_2 x105_4).f2.f2.f0) ((rd_T40 x5_2 x105_4).f2.f2.f1) ((rd_T40 x5_2 x105_4).f2.f2.f2) t271 _ ?side1 ?side2 A118.out).mono ?_
                 (case side1 => exact CR (((Kd.V_reads' HL268_5.out).2.2)))
                 (case side2 => exact HC268_5.out)
                 rintro e w127 ⟨rfl, hb⟩
                 refine ⟨_, rfl, ?_⟩
                 replace HO_103 := Nb HO_103 hb
                 replace HL268_5 := Vb HL268_5 hb
                 replace BK247 := kf BK247 hb
                 replace BK248 := kf BK248 hb
                 replace BK258 := kf BK258 hb
                 replace BK269 := kf BK269 hb
                 replace HB := bs HB hb
                 (try clear hb)
                 (try clear hb2)
                 (try clear hk)
                 (try clear hi)
                 refine hK.out _ _ ⟨(blk_cell BK258.out 0).trans rfl, (blk_cell BK258.out 1).trans rfl, (blk_cell BK258.out 2).trans rfl, (blk_cell BK258.out 3).trans rfl, (blk_cell BK269.out 0).trans rfl, (blk_cell BK269.out 1).trans rfl, (blk_cell BK269.out 2).trans rfl, (blk_cell BK269.out 3).trans rfl, (blk_cell BK269.out 4).trans rfl, (blk_cell BK269.out 5).trans rfl, (blk_cell BK269.out 6).trans rfl, (blk_cell BK269.out 7).trans rfl, (blk_cell BK269.out 8).trans rfl⟩ (fun hHeld => ?_)
                 clear hK K
                 refine norm_ (a' := ?_) ?_ ?_
                 rotate_left
                 ·show Act.put _ (some 119) _ = _
                  simp only [Act.put, List.setIfInBounds_toArray, List.set_cons_zero, List.set_cons_succ, i64_w, i32_w]
                  rfl
                 refine pu_ (i := 11) (N := some 120) b8_26 HT_ ?_
                 refine pu_ (i := 12) (N := some 121) b8_25 HT_ ?_
                 refine pu_ (i := 13) (N := some 122) b8_24 HT_ ?_
                 refine last_ (i := 14) (N := none) b8_23 rfl rfl (one_of HT_.out KR) (by decide) (fun K hK => ?_)
                 have hs128 : w127.cell? ⟨gb258, 3, none⟩ = some (.bool true) := (blk_cell BK258.out 3).trans rfl
                 have hfs128 := blk_frozen BK258.out 3
                 have hns128_0 := NB247_258.out
                 have hns128_1 := NB248_258.out
                 have hns128_3 := NB269_258.out
                 have hms128_0 := NB258_247.out
                 have hms128_1 := NB258_248.out
                 have hms128_3 := NB258_269.out
                 refine skip_ (w1 := ?_) (by rfl) rfl ?_ ?_
                 rotate_left
                 ·go_simp
                  rfl
                 refine hK.out _ _ ?_
                 clear hK K
                 refine done_ (done_of HT_.out KR) ?_
                 try go_wp2
                 go_roundg k4
                 case measure => have := HJ2.out; have := HK2.out; have := HJ58.out; have := HK4.out; omega
                 case rel => exact ⟨(wrap64 (x105_4 + 1)), ((t270 == t271)), (by first | rfl | (simp; done) | (simp [*]; done)), H', ⟨by have := HJ2.out; have := HK2.out; have := HJ58.out; have := HK4.out; omega⟩, ⟨NX (Kd.N_mono HO_103.out (fun k_ hk => (⟨hk, hk.2.2.2.1⟩ : _ ∧ k_ ≠ gb258))) (fun _ hk => ⟨hk.1.1, ⟨hk.1.2.1, ⟨hk.1.2.2.1, hk.1.2.2.2.1⟩⟩⟩)⟩, ⟨PF BK247⟩, ⟨PF BK248⟩, ⟨PX BK258⟩, ⟨PB⟩⟩
                ·replace c116 := Bool.eq_false_iff.mpr c116
                 subst c116
                 have H1 : (impl_LearnForm.l3 k4 x5_2 (x5_2.length : Int) (wrap64 (x105_4 + 1)) x259000_58 x259001_58 (x5_2.length : Int) false) = some (r1, r2, r3, r4) := by rw [if_neg (show ¬ (false = true) by decide)] at H; exact H
                 clear H
                 have H := H1
                 clear H1
                 have H' := Aside0.mk H
                 clear H
                 have p268 : 0 ≤ (x105_4 : Int) := of_decide_eq_true (by first | (with_reducible assumption) | assumption)
                 have q268 : x105_4 < (x5_2.length : Int) := of_decide_eq_true (by first | (with_reducible assumption) | assumption)
                 obtain ⟨ad268, A268_5, c268_5, e268, hx268_0, hx268_1, hx268_2, hx268_3, hx268_4, hx268_5, hx268_6, hx268_7, hx268_8, hl268_5, hi268_5⟩ := at_T40 (Kd.N_reads' HO_103.out).2.2 x105_4 p268 q268
                 obtain rfl : ad259 = ad268 := (by injection e268)
                 obtain ⟨ce268, hce268, hMe268, hcc268⟩ := Kd.N_get HO_103.out z40 x105_4 p268 (by first | exact q268 | exact of_decide_eq_true (by first | (with_reducible assumption) | assumption) | (have e_ := (Kd.N_reads' HO_103.out).1; omega))
                 obtain ⟨ua268_5, uc268_5, rfl, ul268_5, ge268_5⟩ := k40_openF hMe268
                 have hv268_5 := hcc268 5 _ rfl
                 rw [add_field _ _ 5 (by omega)] at hv268_5
                 replace hv268_5 := Option.some.inj (hv268_5.symm.trans hx268_5)
                 injection hv268_5 with hva_ hvn_ hvc_
                 rw [hva_] at ge268_5
                 rw [hvc_] at ul268_5
                 have HL268_5 := ak (show Kd.V (Kd.int .i64) 3 _ w.heap.size _ _ ((rd_T40 x5_2 x105_4).f2.f1) from Kd.V_mk ul268_5 ge268_5)
                 clear hva_ hvn_ hvc_ ge268_5 ul268_5
                 clear hcc268 hce268
                 have HR268_5 := Aside0.mk hi268_5
                 have HC268_5 := Aside0.mk hl268_5
                 clear hi268_5 hl268_5
                 replace p268 := eq_true p268
                 replace q268 := eq_true q268
                 try go_wp2_with (first | ((with_reducible refine gate_dst (N := 16) rfl ?_); refine bx_ (N := 16) #[.int .i64 0, .int .i64 0, .int .i64 0, .int .i64 0, .int .i64 0, .slice none 0 0, .int .i64 0, .int .i64 0, .int .i64 0] 40 ?_; intro gb269 hg w129 hbox hb; replace HO_103 := ak (Kd.N_below (Kd.N_elderB (PN HO_103) gb269 (Nat.le_of_eq hg.symm)) hb); replace HL268_5 := ak (Kd.V_below (Kd.V_elderB (PV HL268_5) gb269 (Nat.le_of_eq hg.symm)) hb); replace HR268_5 := Cb HR268_5 hb; have BK269 := ak hbox; have GW269 := gy hg HB; have GE269 := gy hg HB; replace HB := bs HB hb; have NB247_269 := gm hg BK247; have NB269_247 := gn hg BK247; replace BK247 := kf BK247 hb; have NB248_269 := gm hg BK248; have NB269_248 := gn hg BK248; replace BK248 := kf BK248 hb; have NB258_269 := gm hg BK258; have NB269_258 := gn hg BK258; replace BK258 := kf BK258 hb; clear hb hbox hg; have hnb130 := NB269_247.out; have hnc130 := NB247_269.out; have hnb131 := NB269_248.out; have hnc131 := NB248_269.out; have hnb132 := NB269_258.out; have hnc132 := NB258_269.out; obtain ⟨_, _, _, _, _, _, _, _, _, _, _, _, _, _, _, _, _, _⟩ := bc9 BK269))
                 generalize hW_ : (((((((((w129.setCell ⟨gb269, 0, none⟩ (.int .i64 ((rd_T40 x5_2 x105_4).f0.f0))).setCell ⟨gb269, 1, none⟩ (.int .i64 ((rd_T40 x5_2 x105_4).f0.f1))).setCell ⟨gb269, 2, none⟩ (.int .i64 ((rd_T40 x5_2 x105_4).f0.f2))).setCell ⟨gb269, 3, none⟩ (.int .i64 ((rd_T40 x5_2 x105_4).f1))).setCell ⟨gb269, 4, none⟩ (.int .i64 ((rd_T40 x5_2 x105_4).f2.f0))).setCell ⟨gb269, 5, none⟩ (.slice A268_5 ((rd_T40 x5_2 x105_4).f2.f1).length c268_5)).setCell ⟨gb269, 6, none⟩ (.int .i64 ((rd_T40 x5_2 x105_4).f2.f2.f0))).setCell ⟨gb269, 7, none⟩ (.int .i64 ((rd_T40 x5_2 x105_4).f2.f2.f1))).setCell ⟨gb269, 8, none⟩ (.int .i64 ((rd_T40 x5_2 x105_4).f2.f2.f2))) = w134
                 replace HO_103 : Aside0 (Kd.N k40 40 w134 w.heap.size (fun k_ => (P0_ k_ ∨ w.heap.size ≤ k_) ∧ k_ ≠ gb247 ∧ k_ ≠ gb248 ∧ k_ ≠ gb258 ∧ k_ ≠ gb269) (.slice (some ad259) x5_2.length co60) x5_2) := ⟨by rw [← hW_]; exact NX (Kd.N_mono HO_103.out (fun k_ hk => (⟨hk, hk.2⟩ : _ ∧ k_ ≠ gb269))) (fun _ hk => ⟨hk.1.1.1, ⟨hk.1.1.2.1, ⟨hk.1.1.2.2.1, ⟨hk.1.1.2.2.2, hk.1.2⟩⟩⟩⟩)⟩
                 replace HL268_5 : Aside0 (Kd.V (Kd.int .i64) 3 w134 w.heap.size (fun k_ => (P0_ k_ ∨ w.heap.size ≤ k_) ∧ some k_ ≠ (.slice (some ad259) x5_2.length co60 : Value).ownBlock ∧ k_ ≠ gb247 ∧ k_ ≠ gb248 ∧ k_ ≠ gb258 ∧ k_ ≠ gb269) (.slice A268_5 ((rd_T40 x5_2 x105_4).f2.f1).length c268_5) ((rd_T40 x5_2 x105_4).f2.f1)) := ⟨by rw [← hW_]; exact VX (Kd.V_mono HL268_5.out (fun k_ hk => (⟨hk, hk.2⟩ : _ ∧ k_ ≠ gb269))) (fun _ hk => ⟨hk.1.1.1.1, ⟨hk.1.1.2, ⟨hk.1.1.1.2.1, ⟨hk.1.1.1.2.2.1, ⟨hk.1.1.1.2.2.2, hk.1.2⟩⟩⟩⟩⟩)⟩
                 replace BK247 := BE hW_ BK247
                 replace BK248 := BE hW_ BK248
                 replace BK258 := BE hW_ BK258
                 replace BK269 : Aside0 (w134.heap[gb269]? = some (.cells #[.int .i64 ((rd_T40 x5_2 x105_4).f0.f0), .int .i64 ((rd_T40 x5_2 x105_4).f0.f1), .int .i64 ((rd_T40 x5_2 x105_4).f0.f2), .int .i64 ((rd_T40 x5_2 x105_4).f1), .int .i64 ((rd_T40 x5_2 x105_4).f2.f0), .slice A268_5 ((rd_T40 x5_2 x105_4).f2.f1).length c268_5, .int .i64 ((rd_T40 x5_2 x105_4).f2.f2.f0), .int .i64 ((rd_T40 x5_2 x105_4).f2.f2.f1), .int .i64 ((rd_T40 x5_2 x105_4).f2.f2.f2)] 40 (0, 0))) := BP hW_ BK269
                 replace HB := BL hW_ HB
                 (try clear hW_)
                 replace HO_103 := ak (Kd.N_drew HO_103.out)
                 replace HL268_5 := ak (Kd.V_drew HL268_5.out)
                 replace BK247 := ak (blk_drew BK247.out)
                 replace BK248 := ak (blk_drew BK248.out)
                 replace BK258 := ak (blk_drew BK258.out)
                 replace BK269 := ak (blk_drew BK269.out)
                 replace HB := ak (below_drew1 HB.out)
                 refine start_ (n := 15) (S := fun w' => w'.cell? ⟨gb258, 0, none⟩ = some (.int .i64 x259000_58) ∧ w'.cell? ⟨gb258, 1, none⟩ = some (.int .i64 x259001_58) ∧ w'.cell? ⟨gb258, 2, none⟩ = some (.int .i64 (x5_2.length : Int)) ∧ w'.cell? ⟨gb258, 3, none⟩ = some (.bool false)) (ds := [14]) b8_44 KR rfl rfl ⟨(blk_cell BK258.out 0).trans rfl, (blk_cell BK258.out 1).trans rfl, (blk_cell BK258.out 2).trans rfl, (blk_cell BK258.out 3).trans rfl⟩ (fun hHeld => ?_); refine with_tabW impl_LearnForm.tab30 impl_LearnForm.bits30 (fun HT_ HW_ => ?_)
                 generalize w134.drew = w135 at HO_103 HL268_5 BK247 BK248 BK258 BK269 HB hHeld ⊢
                 refine pu_ (i := 0) (N := some 109) b8_43 HT_ ?_
                 refine tk_ (i := 1) (N := some 110) b8_42 rfl rfl HT_ HW_ hHeld ?_
                 refine pu_ (i := 2) (N := some 111) b8_41 HT_ ?_
                 refine un_ (i := 3) (N := some 112) #[true, true, true, true, false, false, false, false, false, false, false, false, false, false, false] HT_ ?_
                 refine un_ (i := 4) (N := some 113) #[true, true, true, true, true, false, false, false, false, false, false, false, false, false, false] HT_ ?_
                 refine un_ (i := 5) (N := some 114) #[true, true, true, true, true, true, false, false, false, false, false, false, false, false, false] HT_ ?_
                 refine un_ (i := 6) (N := some 115) #[true, true, true, true, true, true, true, false, false, false, false, false, false, false, false] HT_ ?_
                 refine un_ (i := 7) (N := some 116) #[true, true, true, true, true, true, true, true, false, false, false, false, false, false, false] HT_ ?_
                 refine un_ (i := 8) (N := some 117) #[true, true, true, true, true, true, true, true, true, false, false, false, false, false, false] HT_ ?_
                 refine un_ (i := 9) (N := some 118) b8_28 HT_ ?_
                 refine un_ (i := 10) (N := some 119) b8_27 HT_ ?_
                 refine un_ (i := 11) (N := some 120) b8_26 HT_ ?_
                 refine pu_ (i := 12) (N := some 121) b8_25 HT_ ?_
                 refine pu_ (i := 13) (N := some 122) b8_24 HT_ ?_
                 refine last_ (i := 14) (N := none) b8_23 rfl rfl (one_of HT_.out KR) (by decide) (fun K hK => ?_)
                 have hs136 : w135.cell? ⟨gb258, 3, none⟩ = some (.bool false) := (blk_cell BK258.out 3).trans rfl
                 have hfs136 := blk_frozen BK258.out 3
                 have hns136_0 := NB247_258.out
                 have hns136_1 := NB248_258.out
                 have hns136_3 := NB269_258.out
                 have hms136_0 := NB258_247.out
                 have hms136_1 := NB258_248.out
                 have hms136_3 := NB258_269.out
                 refine skip_ (w1 := ?_) (by rfl) rfl ?_ ?_
                 rotate_left
                 ·go_simp
                  rfl
                 refine hK.out _ _ ?_
                 clear hK K
                 refine done_ (done_of HT_.out KR) ?_
                 try go_wp2
                 go_roundg k4
                 case measure => have := HJ2.out; have := HK2.out; have := HJ58.out; have := HK4.out; omega
                 case rel => exact ⟨(wrap64 (x105_4 + 1)), (false), (by first | rfl | (simp; done) | (simp [*]; done)), H', ⟨by have := HJ2.out; have := HK2.out; have := HJ58.out; have := HK4.out; omega⟩, ⟨NX (Kd.N_mono HO_103.out (fun k_ hk => (⟨hk, hk.2.2.2.1⟩ : _ ∧ k_ ≠ gb258))) (fun _ hk => ⟨hk.1.1, ⟨hk.1.2.1, ⟨hk.1.2.2.1, hk.1.2.2.2.1⟩⟩⟩)⟩, ⟨PF BK247⟩, ⟨PF BK248⟩, ⟨PX BK258⟩, ⟨PB⟩⟩
               ·rw [if_neg c115] at H
                exact absurd H (by simp)
              ·rw [if_neg c114] at H
               exact absurd H (by simp)
             ·rw [if_neg c113] at H
              have c113b0 : decide (x105_4 < (x5_2.length : Int)) = false := decide_eq_false c113
              clear c113
              simp only [Option.some.injEq, Prod.mk.injEq] at H
              obtain ⟨rfl, rfl, rfl, rfl⟩ := H
              have hnb137 := NB258_247.out
              have hnc137 := NB247_258.out
              have hnb138 := NB258_248.out
              have hnc138 := NB248_258.out
              obtain ⟨_, _, _, _, _, _, _, _⟩ := bc4 BK258
              have hnb140 := NB248_247.out
              have hnc140 := NB247_248.out
              obtain ⟨_, _, _, _, _, _, _, _⟩ := bc4 BK248
              go_wp2
              refine bodyPost_ret (results_cell_row rfl _ _ gb248 85 #[.int .i64 x259000_58, .int .i64 x259001_58, .int .i64 (x5_2.length : Int), .bool x259003_4] (0, 0) _ rfl (PX BK248) Try.underlying85 rfl KR) rfl ?_
              exact ⟨RT, PB⟩
        ·rw [if_neg c57] at H
         exact absurd H (by simp)

end Go.Proofs.Ytgcamebeonodeaa.MFnExactLearnForm
