-- Written by a program of this session out of the translation's own print. Not trusted: Lean checks it.
import Derived.Test.YtmcfdpodoebokaaShr2
import Derived.Test.YtmcfdpodoebokaaMFnExactAddCapturesx0
import Derived.Test.YtmcfdpodoebokaaMFnExactAddCapturesx4
import Derived.Test.YtmcfdpodoebokaaMFnExactAddCapturesx5
import Derived.Test.YtmcfdpodoebokaaMFnExactAddCapturesx6
namespace Go.Proofs.Ytmcfdpodoebokaa.MFnExactAddCaptures
open Go.RowKit Go.Proofs.YtmcfdpodoebokaaW.PrintWords Go.Proofs.YtmcfdpodoebokaaW.PrintLast Go.Proofs.YtmcfdpodoebokaaW.PrintMore
attribute [local go_sem] max2_int min2_int max_two min_two max_three min_three max_four min_four   -- for this text's walks alone
set_option linter.unusedVariables false
set_option linter.unusedSimpArgs false

/-! ### impl_AddCaptures: function 7 -/
def impl_AddCaptures.l0 : Nat → List (S45) → List (S45) → List (S45) → Int → Int → Option ((List (S45)) × Bool)
  | 0, _, _, _, _, _ => none
  | k + 1, x0, x6, x11, x12, x13 => if x13 < x12 then (if 0 ≤ x13 then (if x13 < (x11.length : Int) then ((impl_hasCapture.f k x6 ((rd_T45 x11 x13).f0.f0) ((rd_T45 x11 x13).f0.f1) ((rd_T45 x11 x13).f0.f2) ((rd_T45 x11 x13).f1) ((rd_T45 x11 x13).f2.f0) ((rd_T45 x11 x13).f2.f1) ((rd_T45 x11 x13).f2.f2.f0) ((rd_T45 x11 x13).f2.f2.f1) ((rd_T45 x11 x13).f2.f2.f2)).bind fun t276 => (if t276 = true then (impl_AddCaptures.l0 k x0 x6 x11 x12 (wrap64 (x13 + 1))) else ((impl_copyResource.f ((rd_T45 x11 x13).f2.f0) ((rd_T45 x11 x13).f2.f1) ((rd_T45 x11 x13).f2.f2.f0) ((rd_T45 x11 x13).f2.f2.f1) ((rd_T45 x11 x13).f2.f2.f2)).bind fun bt277 => (if x6.length < 1599289640401 then (impl_AddCaptures.l0 k x0 (x6 ++ [(⟨(⟨(rd_T45 x11 x13).f0.f0, (rd_T45 x11 x13).f0.f1, (rd_T45 x11 x13).f0.f2⟩ : S41), (rd_T45 x11 x13).f1, (⟨bt277.1, bt277.2.1, (⟨bt277.2.2.1, bt277.2.2.2.1, bt277.2.2.2.2⟩ : S41)⟩ : S43)⟩ : S45)]) x11 x12 (wrap64 (x13 + 1))) else (none))))) else (none)) else (none)) else ((impl_AreCaptures.f k x6).bind fun t287 => (if t287 = true then (some (x6, true)) else ((impl_copyCaptures.f k x0).bind fun t288 => (some (t288, false)))))
def impl_AddCaptures.f (k : Nat) (l0 : List (S45)) (l1 : List (S45)) : Option ((List (S45)) × Bool) := (impl_copyCaptures.f k l0).bind fun t271 => (impl_AddCaptures.l0 k l0 t271 l1 (l1.length : Int) 0)
def impl_AddCaptures.T6 : Bool × List (List Nat × List Nat) := (true, [([], []), ([], []), ([1], [1]), ([], []), ([3], [3]), ([], []), ([5], [5]), ([6], [6]), ([2, 4, 7], [2, 4, 7]), ([8], [8]), ([0, 9, 7], [0, 9]), ([10, 10, 0, 1, 2, 3, 4, 5, 6, 7, 8, 9, 10], [0, 10])])
def impl_AddCaptures.B6 : List Nat := [0, 0, 2, 0, 8, 0, 32, 96, 254, 510, 1023, 2047]
theorem impl_AddCaptures.tab6 : rtab .any (opsOf Try.f7 6) = impl_AddCaptures.T6 := by kernel_rfl
theorem impl_AddCaptures.bits6 : waitsOk impl_AddCaptures.T6.2 impl_AddCaptures.B6 = true := by kernel_rfl
set_option maxHeartbeats 8000000 in
set_option maxRecDepth 100000 in
theorem impl_AddCaptures.calls (k : Nat) (A0 : Option Addr) (c0 : Nat) (l0 : List (S45)) (A1 : Option Addr) (c1 : Nat) (l1 : List (S45)) (r1 : List (S45)) (r2 : Bool) (w : World) (hr0 : Kd.C k45 w A0 l0.length l0) (hc0 : l0.length ≤ c0) (hr1 : Kd.C k45 w A1 l1.length l1) (hc1 : l1.length ≤ c1) (h : impl_AddCaptures.f k l0 l1 = some (r1, r2)) :
  Calls Try.prog 7 #[.slice A0 l0.length c0, .slice A1 l1.length c1] w fun e w' => ∃ v0_ : Value, e = .returned (.tuple #[v0_, .bool r2]) ∧ Kd.S k45 45 w' w.heap.size (fun _ => True) v0_ r1 ∧ Below w.heap.size w w' := by
 have hu45 := Try.underlying45
 have hu41 := Try.underlying41
 have hu43 := Try.underlying43
 have HR0 := Aside0.mk hr0
 have HC0 := Aside0.mk hc0
 clear hr0 hc0
 have HR1 := Aside0.mk hr1
 have HC1 := Aside0.mk hc1
 clear hr1 hc1
 have HB := ak (Below.refl w.heap.size w)
 have H : ((impl_copyCaptures.f k l0).bind fun t271 => (impl_AddCaptures.l0 k l0 t271 l1 (l1.length : Int) 0)) = some (r1, r2) := h
 clear h
 replace H := Option.bind_eq_some_iff.mp H
 obtain ⟨t271, A30, H⟩ := H
 replace H : (impl_AddCaptures.l0 k l0 t271 l1 (l1.length : Int) 0) = some (r1, r2) := H
 have A3 := Aside0.mk A30
 clear A30
 have H' := Aside0.mk H
 clear H
 go_enter Try.func7, Try.ntmps7
 go_wp2_with (first | ((with_reducible refine gate_callee (f := 16) rfl ?_); refine goesL_ (some 10) rfl rfl Try.func16 KR rfl #[.slice A0 l0.length c0] rfl AR ?_; (with_reducible refine (impl_copyCaptures.calls k _ _ l0 t271 _ ?side1 ?side2 A3.out).mono ?_); (case side1 => exact CR (HR0.out)); (case side2 => exact HC0.out); rintro e w4 ⟨v272, rfl, ho0, hb⟩; refine ⟨_, rfl, ?_⟩; have HO273 := ak (Kd.S_lower ho0 (below_size PB)); replace HB := bs HB hb; (try clear hb); (try clear hb2); (try clear hk); (try clear hi); (try clear ho0)))
 go_loopg [6, 13] k (fun kq v6 v13 w' => ∃ (x6_1 : List (S45)) (x13_1 : Int), v13 = .int .i64 x13_1 ∧ Aside0 (impl_AddCaptures.l0 kq l0 x6_1 l1 (l1.length : Int) x13_1 = some (r1, r2)) ∧ Aside0 (kq ≤ k) ∧ Aside0 (Kd.S k45 45 w' w.heap.size (fun _ => True) v6 x6_1) ∧ Aside0 (Below w.heap.size w w'))
 case atStart => exact ⟨(t271), (0), (by first | rfl | (simp; done) | (simp [*]; done)), H', ⟨Nat.le_refl _⟩, ⟨PS HO273⟩, ⟨PB⟩⟩
 case round =>
  clear H'
  (try clear c1); (try clear p2)
  obtain ⟨x6_1, x13_1, rfl, HA, HK1, HO_6, HB⟩ := hrel
  cases gk with
  | zero => exact absurd HA.out (by simp [impl_AddCaptures.l0])
  | succ k1 =>
   have H := HA.out
   clear HA
   simp only [impl_AddCaptures.l0] at H
   by_cases c5 : x13_1 < (l1.length : Int)
   ·rw [if_pos c5] at H
    have c5b0 : decide (x13_1 < (l1.length : Int)) = true := decide_eq_true c5
    clear c5
    by_cases c6 : 0 ≤ x13_1
    ·rw [if_pos c6] at H
     have c6b0 : decide (0 ≤ x13_1) = true := decide_eq_true c6
     clear c6
     by_cases c7 : x13_1 < (l1.length : Int)
     ·rw [if_pos c7] at H
      have c7b0 : decide (x13_1 < (l1.length : Int)) = true := decide_eq_true c7
      clear c7
      replace H := Option.bind_eq_some_iff.mp H
      obtain ⟨t276, A80, H⟩ := H
      replace H : (if t276 = true then (impl_AddCaptures.l0 k1 l0 x6_1 l1 (l1.length : Int) (wrap64 (x13_1 + 1))) else ((impl_copyResource.f ((rd_T45 l1 x13_1).f2.f0) ((rd_T45 l1 x13_1).f2.f1) ((rd_T45 l1 x13_1).f2.f2.f0) ((rd_T45 l1 x13_1).f2.f2.f1) ((rd_T45 l1 x13_1).f2.f2.f2)).bind fun bt277 => (if x6_1.length < 1599289640401 then (impl_AddCaptures.l0 k1 l0 (x6_1 ++ [(⟨(⟨(rd_T45 l1 x13_1).f0.f0, (rd_T45 l1 x13_1).f0.f1, (rd_T45 l1 x13_1).f0.f2⟩ : S41), (rd_T45 l1 x13_1).f1, (⟨bt277.1, bt277.2.1, (⟨bt277.2.2.1, bt277.2.2.2.1, bt277.2.2.2.2⟩ : S41)⟩ : S43)⟩ : S45)]) l1 (l1.length : Int) (wrap64 (x13_1 + 1))) else (none)))) = some (r1, r2) := H
      have A8 := Aside0.mk A80
      clear A80
      by_cases c9 : t276 = true
      ·subst c9
       have H1 : (impl_AddCaptures.l0 k1 l0 x6_1 l1 (l1.length : Int) (wrap64 (x13_1 + 1))) = some (r1, r2) := by rw [if_pos rfl] at H; exact H
       clear H
       have H := H1
       clear H1
       have H' := Aside0.mk H
       clear H
       have p274 : 0 ≤ (x13_1 : Int) := of_decide_eq_true (by first | (with_reducible assumption) | assumption)
       have q274 : x13_1 < (l1.length : Int) := of_decide_eq_true (by first | (with_reducible assumption) | assumption)
       obtain ⟨ad274, A274_5, c274_5, e274, hx274_0, hx274_1, hx274_2, hx274_3, hx274_4, hx274_5, hx274_6, hx274_7, hx274_8, hl274_5, hi274_5⟩ := at_T45 HR1.out x13_1 p274 q274
       cases e274
       replace hx274_0 := hx_ HB hx274_0
       replace hx274_1 := hx_ HB hx274_1
       replace hx274_2 := hx_ HB hx274_2
       replace hx274_3 := hx_ HB hx274_3
       replace hx274_4 := hx_ HB hx274_4
       replace hx274_5 := hx_ HB hx274_5
       replace hx274_6 := hx_ HB hx274_6
       replace hx274_7 := hx_ HB hx274_7
       replace hx274_8 := hx_ HB hx274_8
       have HR274_5 := Aside0.mk hi274_5
       have HC274_5 := Aside0.mk hl274_5
       clear hi274_5 hl274_5
       replace p274 := eq_true p274
       replace q274 := eq_true q274
       go_wp2_with (first | ((with_reducible refine gate_dst (N := 8) rfl ?_); refine bx_ (N := 8) #[.int .i64 0, .int .i64 0, .int .i64 0, .int .i64 0, .int .i64 0, .slice none 0 0, .int .i64 0, .int .i64 0, .int .i64 0] 45 ?_; intro gb275 hg w10 hbox hb; replace HO_6 := ak (Kd.S_below (Kd.S_elderB (PS HO_6) gb275 (Nat.le_of_eq hg.symm)) hb); have BK275 := ak hbox; have GW275 := gy hg HB; have GE275 := gy hg HB; replace HB := bs HB hb; clear hb hbox hg; obtain ⟨_, _, _, _, _, _, _, _, _, _, _, _, _, _, _, _, _, _⟩ := bc9 BK275; obtain ⟨Ao12, co12, eo12⟩ := Kd.S_slice HO_6.out; subst eo12) | ((with_reducible refine gate_callee (f := 17) rfl ?_); refine goesL_ (some 19) rfl rfl Try.func17 KR rfl #[.slice Ao12 x6_1.length co12, .agg #[.int .i64 ((rd_T45 l1 x13_1).f0.f0), .int .i64 ((rd_T45 l1 x13_1).f0.f1), .int .i64 ((rd_T45 l1 x13_1).f0.f2), .int .i64 ((rd_T45 l1 x13_1).f1), .int .i64 ((rd_T45 l1 x13_1).f2.f0), .slice A274_5 ((rd_T45 l1 x13_1).f2.f1).length c274_5, .int .i64 ((rd_T45 l1 x13_1).f2.f2.f0), .int .i64 ((rd_T45 l1 x13_1).f2.f2.f1), .int .i64 ((rd_T45 l1 x13_1).f2.f2.f2)]] rfl AR ?_; (with_reducible refine (impl_hasCapture.calls k1 _ _ x6_1 ((rd_T45 l1 x13_1).f0.f0) ((rd_T45 l1 x13_1).f0.f1) ((rd_T45 l1 x13_1).f0.f2) ((rd_T45 l1 x13_1).f1) ((rd_T45 l1 x13_1).f2.f0) _ _ ((rd_T45 l1 x13_1).f2.f1) ((rd_T45 l1 x13_1).f2.f2.f0) ((rd_T45 l1 x13_1).f2.f2.f1) ((rd_T45 l1 x13_1).f2.f2.f2) true _ ?side1 ?side2 ?side3 ?side4 A8.out).mono ?_); (case side1 => exact (Kd.S_reads' (SX (Kd.S_mono HO_6.out (fun k_ hk => (⟨hk, hk.2⟩ : _ ∧ k_ ≠ gb275))) (fun _ h_ => h_.1))).2.2); (case side2 => exact (Kd.S_reads' HO_6.out).2.1); (case side3 => exact Kd.C_below HR274_5.out PB); (case side4 => exact HC274_5.out); rintro e w13 ⟨rfl, hb⟩; refine ⟨_, rfl, ?_⟩; replace HO_6 := ak (Kd.S_below (SX (Kd.S_mono HO_6.out (fun k_ hk => (⟨hk, hk.2⟩ : _ ∧ k_ ≠ gb275))) (fun _ h_ => h_.1)) hb); replace BK275 := kp (cs' := #[.int .i64 ((rd_T45 l1 x13_1).f0.f0), .int .i64 ((rd_T45 l1 x13_1).f0.f1), .int .i64 ((rd_T45 l1 x13_1).f0.f2), .int .i64 ((rd_T45 l1 x13_1).f1), .int .i64 ((rd_T45 l1 x13_1).f2.f0), .slice A274_5 ((rd_T45 l1 x13_1).f2.f1).length c274_5, .int .i64 ((rd_T45 l1 x13_1).f2.f2.f0), .int .i64 ((rd_T45 l1 x13_1).f2.f2.f1), .int .i64 ((rd_T45 l1 x13_1).f2.f2.f2)]) BK275 hb; replace HB := bs HB hb; (try clear hb); (try clear hb2); (try clear hk); (try clear hi)))
       go_roundg k1
       case measure => have := HK1.out; omega
       case rel => exact ⟨(x6_1), (wrap64 (x13_1 + 1)), (by first | rfl | (simp; done) | (simp [*]; done)), H', ⟨by have := HK1.out; omega⟩, ⟨SX HO_6.out (fun _ hk => trivial)⟩, ⟨PB⟩⟩
      ·replace c9 := Bool.eq_false_iff.mpr c9
       subst c9
       have H1 : ((impl_copyResource.f ((rd_T45 l1 x13_1).f2.f0) ((rd_T45 l1 x13_1).f2.f1) ((rd_T45 l1 x13_1).f2.f2.f0) ((rd_T45 l1 x13_1).f2.f2.f1) ((rd_T45 l1 x13_1).f2.f2.f2)).bind fun bt277 => (if x6_1.length < 1599289640401 then (impl_AddCaptures.l0 k1 l0 (x6_1 ++ [(⟨(⟨(rd_T45 l1 x13_1).f0.f0, (rd_T45 l1 x13_1).f0.f1, (rd_T45 l1 x13_1).f0.f2⟩ : S41), (rd_T45 l1 x13_1).f1, (⟨bt277.1, bt277.2.1, (⟨bt277.2.2.1, bt277.2.2.2.1, bt277.2.2.2.2⟩ : S41)⟩ : S43)⟩ : S45)]) l1 (l1.length : Int) (wrap64 (x13_1 + 1))) else (none))) = some (r1, r2) := by rw [if_neg (show ¬ (false = true) by decide)] at H; exact H
       clear H
       have H := H1
       clear H1
       replace H := Option.bind_eq_some_iff.mp H
       obtain ⟨⟨t277, t278, t281, t282, t283⟩, A140, H⟩ := H
       replace H : (if x6_1.length < 1599289640401 then (impl_AddCaptures.l0 k1 l0 (x6_1 ++ [(⟨(⟨(rd_T45 l1 x13_1).f0.f0, (rd_T45 l1 x13_1).f0.f1, (rd_T45 l1 x13_1).f0.f2⟩ : S41), (rd_T45 l1 x13_1).f1, (⟨t277, t278, (⟨t281, t282, t283⟩ : S41)⟩ : S43)⟩ : S45)]) l1 (l1.length : Int) (wrap64 (x13_1 + 1))) else (none)) = some (r1, r2) := H
       have A14 := Aside0.mk A140
       clear A140
       by_cases c15 : x6_1.length < 1599289640401
       ·rw [if_pos c15] at H
        have LMc15 := Aside0.mk c15
        clear c15
        obtain ⟨y284, hy284⟩ : ∃ y_ : List (S45), y_ = (x6_1 ++ [(⟨(⟨(rd_T45 l1 x13_1).f0.f0, (rd_T45 l1 x13_1).f0.f1, (rd_T45 l1 x13_1).f0.f2⟩ : S41), (rd_T45 l1 x13_1).f1, (⟨t277, t278, (⟨t281, t282, t283⟩ : S41)⟩ : S43)⟩ : S45)]) := ⟨_, rfl⟩
        replace H : (impl_AddCaptures.l0 k1 l0 y284 l1 (l1.length : Int) (wrap64 (x13_1 + 1))) = some (r1, r2) := by first | (rw [hy284]; with_reducible exact H) | (have H2_ := (Option.bind_some _ _).symm.trans H; rw [hy284]; with_reducible exact H2_) | (have H2_ := (Option.bind_some _ _).symm.trans H; with_reducible exact H2_) | with_reducible exact H | (rw [hy284]; exact H) | exact H
        have Ny284 := Aside0.mk hy284
        clear hy284
        have H' := Aside0.mk H
        clear H
        have p274 : 0 ≤ (x13_1 : Int) := of_decide_eq_true (by first | (with_reducible assumption) | assumption)
        have q274 : x13_1 < (l1.length : Int) := of_decide_eq_true (by first | (with_reducible assumption) | assumption)
        obtain ⟨ad274, A274_5, c274_5, e274, hx274_0, hx274_1, hx274_2, hx274_3, hx274_4, hx274_5, hx274_6, hx274_7, hx274_8, hl274_5, hi274_5⟩ := at_T45 HR1.out x13_1 p274 q274
        cases e274
        replace hx274_0 := hx_ HB hx274_0
        replace hx274_1 := hx_ HB hx274_1
        replace hx274_2 := hx_ HB hx274_2
        replace hx274_3 := hx_ HB hx274_3
        replace hx274_4 := hx_ HB hx274_4
        replace hx274_5 := hx_ HB hx274_5
        replace hx274_6 := hx_ HB hx274_6
        replace hx274_7 := hx_ HB hx274_7
        replace hx274_8 := hx_ HB hx274_8
        have HR274_5 := Aside0.mk hi274_5
        have HC274_5 := Aside0.mk hl274_5
        clear hi274_5 hl274_5
        replace p274 := eq_true p274
        replace q274 := eq_true q274
        try go_wp2_with (first | ((with_reducible refine gate_dst (N := 8) rfl ?_); refine bx_ (N := 8) #[.int .i64 0, .int .i64 0, .int .i64 0, .int .i64 0, .int .i64 0, .slice none 0 0, .int .i64 0, .int .i64 0, .int .i64 0] 45 ?_; intro gb275 hg w16 hbox hb; replace HO_6 := ak (Kd.S_below (Kd.S_elderB (PS HO_6) gb275 (Nat.le_of_eq hg.symm)) hb); have BK275 := ak hbox; have GW275 := gy hg HB; have GE275 := gy hg HB; replace HB := bs HB hb; clear hb hbox hg; obtain ⟨_, _, _, _, _, _, _, _, _, _, _, _, _, _, _, _, _, _⟩ := bc9 BK275; obtain ⟨Ao18, co18, eo18⟩ := Kd.S_slice HO_6.out; subst eo18) | ((with_reducible refine gate_callee (f := 17) rfl ?_); refine goesL_ (some 19) rfl rfl Try.func17 KR rfl #[.slice Ao18 x6_1.length co18, .agg #[.int .i64 ((rd_T45 l1 x13_1).f0.f0), .int .i64 ((rd_T45 l1 x13_1).f0.f1), .int .i64 ((rd_T45 l1 x13_1).f0.f2), .int .i64 ((rd_T45 l1 x13_1).f1), .int .i64 ((rd_T45 l1 x13_1).f2.f0), .slice A274_5 ((rd_T45 l1 x13_1).f2.f1).length c274_5, .int .i64 ((rd_T45 l1 x13_1).f2.f2.f0), .int .i64 ((rd_T45 l1 x13_1).f2.f2.f1), .int .i64 ((rd_T45 l1 x13_1).f2.f2.f2)]] rfl AR ?_; (with_reducible refine (impl_hasCapture.calls k1 _ _ x6_1 ((rd_T45 l1 x13_1).f0.f0) ((rd_T45 l1 x13_1).f0.f1) ((rd_T45 l1 x13_1).f0.f2) ((rd_T45 l1 x13_1).f1) ((rd_T45 l1 x13_1).f2.f0) _ _ ((rd_T45 l1 x13_1).f2.f1) ((rd_T45 l1 x13_1).f2.f2.f0) ((rd_T45 l1 x13_1).f2.f2.f1) ((rd_T45 l1 x13_1).f2.f2.f2) false _ ?side1 ?side2 ?side3 ?side4 A8.out).mono ?_); (case side1 => exact (Kd.S_reads' (SX (Kd.S_mono HO_6.out (fun k_ hk => (⟨hk, hk.2⟩ : _ ∧ k_ ≠ gb275))) (fun _ h_ => h_.1))).2.2); (case side2 => exact (Kd.S_reads' HO_6.out).2.1); (case side3 => exact Kd.C_below HR274_5.out PB); (case side4 => exact HC274_5.out); rintro e w19 ⟨rfl, hb⟩; refine ⟨_, rfl, ?_⟩; replace HO_6 := ak (Kd.S_below (SX (Kd.S_mono HO_6.out (fun k_ hk => (⟨hk, hk.2⟩ : _ ∧ k_ ≠ gb275))) (fun _ h_ => h_.1)) hb); replace BK275 := kp (cs' := #[.int .i64 ((rd_T45 l1 x13_1).f0.f0), .int .i64 ((rd_T45 l1 x13_1).f0.f1), .int .i64 ((rd_T45 l1 x13_1).f0.f2), .int .i64 ((rd_T45 l1 x13_1).f1), .int .i64 ((rd_T45 l1 x13_1).f2.f0), .slice A274_5 ((rd_T45 l1 x13_1).f2.f1).length c274_5, .int .i64 ((rd_T45 l1 x13_1).f2.f2.f0), .int .i64 ((rd_T45 l1 x13_1).f2.f2.f1), .int .i64 ((rd_T45 l1 x13_1).f2.f2.f2)]) BK275 hb; replace HB := bs HB hb; (try clear hb); (try clear hb2); (try clear hk); (try clear hi)))
        replace HO_6 := ak (Kd.S_drew HO_6.out)
        replace BK275 := ak (blk_drew BK275.out)
        replace HB := ak (below_drew1 HB.out)
        refine start_ (n := 12) (S := fun w' => w'.cell? ⟨gb275, 0, none⟩ = some (.int .i64 ((rd_T45 l1 x13_1).f0.f0)) ∧ w'.cell? ⟨gb275, 1, none⟩ = some (.int .i64 ((rd_T45 l1 x13_1).f0.f1)) ∧ w'.cell? ⟨gb275, 2, none⟩ = some (.int .i64 ((rd_T45 l1 x13_1).f0.f2)) ∧ w'.cell? ⟨gb275, 3, none⟩ = some (.int .i64 ((rd_T45 l1 x13_1).f1)) ∧ w'.cell? ⟨gb275, 4, none⟩ = some (.int .i64 ((rd_T45 l1 x13_1).f2.f0)) ∧ w'.cell? ⟨gb275, 5, none⟩ = some (.slice A274_5 ((rd_T45 l1 x13_1).f2.f1).length c274_5) ∧ w'.cell? ⟨gb275, 6, none⟩ = some (.int .i64 ((rd_T45 l1 x13_1).f2.f2.f0)) ∧ w'.cell? ⟨gb275, 7, none⟩ = some (.int .i64 ((rd_T45 l1 x13_1).f2.f2.f1)) ∧ w'.cell? ⟨gb275, 8, none⟩ = some (.int .i64 ((rd_T45 l1 x13_1).f2.f2.f2))) (ds := []) #[false, false, false, false, false, false, false, false, false, false, false, false] KR rfl rfl ⟨(blk_cell BK275.out 0).trans rfl, (blk_cell BK275.out 1).trans rfl, (blk_cell BK275.out 2).trans rfl, (blk_cell BK275.out 3).trans rfl, (blk_cell BK275.out 4).trans rfl, (blk_cell BK275.out 5).trans rfl, (blk_cell BK275.out 6).trans rfl, (blk_cell BK275.out 7).trans rfl, (blk_cell BK275.out 8).trans rfl⟩ (fun hHeld => ?_); refine with_tabW impl_AddCaptures.tab6 impl_AddCaptures.bits6 (fun HT_ HW_ => ?_)
        generalize w19.drew = w20 at HO_6 BK275 HB hHeld ⊢
        refine pu_ (i := 0) (N := some 21) #[true, false, false, false, false, false, false, false, false, false, false, false] HT_ ?_
        refine pu_ (i := 1) (N := some 22) #[true, true, false, false, false, false, false, false, false, false, false, false] HT_ ?_
        refine pu_ (i := 3) (N := some 24) #[true, true, false, true, false, false, false, false, false, false, false, false] HT_ ?_
        refine pu_ (i := 5) (N := some 26) #[true, true, false, true, false, true, false, false, false, false, false, false] HT_ ?_
        refine tk_ (i := 2) (N := some 23) #[true, true, true, true, false, true, false, false, false, false, false, false] rfl rfl HT_ HW_ hHeld ?_
        refine take_ (i := 4) (N := some 25) (v := ?_) (a' := ?_) #[true, true, true, true, true, true, false, false, false, false, false, false] rfl rfl (take_ofW HT_.out HW_.out KR) (fun _ _ _ h => h) (Or.inl ⟨by rfl, ?_⟩) hHeld ?_ ?_
        rotate_left
        ·rintro w' ⟨s0, s1, s2, s3, s4, s5, s6, s7, s8⟩
         go_simp
         with_reducible rfl
        rotate_left
        ·simp only [Act.put, List.setIfInBounds_toArray, List.set_cons_zero, List.set_cons_succ, i64_w, i32_w]
         rfl
        refine tk_ (i := 6) (N := some 27) #[true, true, true, true, true, true, true, false, false, false, false, false] rfl rfl HT_ HW_ hHeld ?_
        refine one_ (i := 7) (N := some 28) #[true, true, true, true, true, true, true, true, false, false, false, false] rfl rfl (one_of HT_.out KR) (by decide) (fun K hK => ?_)
        refine goes_ Try.func18 KR rfl #[.agg #[.int .i64 ((rd_T45 l1 x13_1).f2.f0), .slice A274_5 ((rd_T45 l1 x13_1).f2.f1).length c274_5, .int .i64 ((rd_T45 l1 x13_1).f2.f2.f0), .int .i64 ((rd_T45 l1 x13_1).f2.f2.f1), .int .i64 ((rd_T45 l1 x13_1).f2.f2.f2)]] (by rfl) rfl rfl AR ?_
        with_reducible refine (impl_copyResource.calls ((rd_T45 l1 x13_1).f2.f0) _ _ ((rd_T45 l1 x13_1).f2.f1) ((rd_T45 l1 x13_1).f2.f2.f0) ((rd_T45 l1 x13_1).f2.f2.f1) ((rd_T45 l1 x13_1).f2.f2.f2) t277 t278 t281 t282 t283 _ ?side1 ?side2 A14.out).mono ?_
        (case side1 => exact CR (Kd.C_below HR274_5.out HB.out))
        (case side2 => exact HC274_5.out)
        rintro e w21 ⟨v279, rfl, ho0, hb⟩
        refine ⟨_, rfl, ?_⟩
        replace HO_6 := ak (Kd.S_elder' (PS HO_6) (Kd.R_base ho0) hb)
        have HO280 := Rn0 ho0 HB
        replace BK275 := kf BK275 hb
        replace HB := bs HB hb
        (try clear hb)
        (try clear hb2)
        (try clear hk)
        (try clear hi)
        (try clear ho0)
        obtain ⟨Ao22, co22, eo22⟩ := Kd.R_slice HO280.out
        (first | subst eo22 | (injection eo22 with f1_ f2_ f3_; have f4_ := f1_.symm; have f5_ := f3_.symm; clear f1_ f2_ f3_; subst f4_; subst f5_))
        refine hK.out _ _ ⟨(blk_cell BK275.out 0).trans rfl, (blk_cell BK275.out 1).trans rfl, (blk_cell BK275.out 2).trans rfl, (blk_cell BK275.out 3).trans rfl, (blk_cell BK275.out 4).trans rfl, (blk_cell BK275.out 5).trans rfl, (blk_cell BK275.out 6).trans rfl, (blk_cell BK275.out 7).trans rfl, (blk_cell BK275.out 8).trans rfl⟩ (fun hHeld => ?_)
        clear hK K
        refine norm_ (a' := ?_) ?_ ?_
        rotate_left
        ·show Act.put _ (some 28) _ = _
         simp only [Act.put, List.setIfInBounds_toArray, List.set_cons_zero, List.set_cons_succ, i64_w, i32_w]
         rfl
        refine pu_ (i := 8) (N := some 29) #[true, true, true, true, true, true, true, true, true, false, false, false] HT_ ?_
        refine one_ (i := 9) (N := some 30) #[true, true, true, true, true, true, true, true, true, true, false, false] rfl rfl (one_of HT_.out KR) (by decide) (fun K hK => ?_)
        refine value_ (w1 := ?_) (v := ?_) (by rfl) rfl ?_ ?_
        rotate_left 2
        ·go_simp
         constructor
         ·rfl
         ·rfl
        refine hK.out _ _ ⟨(blk_cell (blk_alloc BK275.out _) 0).trans rfl, (blk_cell (blk_alloc BK275.out _) 1).trans rfl, (blk_cell (blk_alloc BK275.out _) 2).trans rfl, (blk_cell (blk_alloc BK275.out _) 3).trans rfl, (blk_cell (blk_alloc BK275.out _) 4).trans rfl, (blk_cell (blk_alloc BK275.out _) 5).trans rfl, (blk_cell (blk_alloc BK275.out _) 6).trans rfl, (blk_cell (blk_alloc BK275.out _) 7).trans rfl, (blk_cell (blk_alloc BK275.out _) 8).trans rfl⟩ (fun hHeld => ?_)
        clear hK K
        refine norm_ (a' := ?_) ?_ ?_
        rotate_left
        ·show Act.put _ (some 30) _ = _
         simp only [Act.put, List.setIfInBounds_toArray, List.set_cons_zero, List.set_cons_succ, i64_w, i32_w]
         rfl
        refine one_ (i := 10) (N := some 31) #[true, true, true, true, true, true, true, true, true, true, true, false] rfl rfl (one_of HT_.out KR) (by decide) (fun K hK => ?_)
        refine Kd.S_append_step k45 (w0 := w) w.heap.size (by rfl) (.tmp 21) (.tmp 30) 24 45 (.agg #[(.int .i64 0), (.int .i64 0), (.int .i64 0), (.int .i64 0), (.int .i64 0), (.slice none 0 0), (.int .i64 0), (.int .i64 0), (.int .i64 0)]) 88 rfl Try.underlying24 info45 rfl (by decide) (by omega) (.slice Ao18 x6_1.length co18) x6_1 (⟨(⟨(rd_T45 l1 x13_1).f0.f0, (rd_T45 l1 x13_1).f0.f1, (rd_T45 l1 x13_1).f0.f2⟩ : S41), (rd_T45 l1 x13_1).f1, (⟨t277, t278, (⟨t281, t282, t283⟩ : S41)⟩ : S43)⟩ : S45) [.int .i64 ((rd_T45 l1 x13_1).f0.f0), .int .i64 ((rd_T45 l1 x13_1).f0.f1), .int .i64 ((rd_T45 l1 x13_1).f0.f2), .int .i64 ((rd_T45 l1 x13_1).f1), .int .i64 t277, .slice Ao22 t278.length co22, .int .i64 t281, .int .i64 t282, .int .i64 t283] (fun k_ => k_ ≠ gb275) (fun k_ => some k_ = (.slice Ao22 t278.length co22 : Value).ownBlock) rfl rfl ?aP (fun k_ hk_ => ((Kd.R_mono (ok' := fun k_ => ((fun k_ => k_ ≠ gb275)) k_ ∧ some k_ ≠ (.slice Ao18 x6_1.length co18 : Value).ownBlock) (Kd.R_types (Kd.R_apart' (HO280.out) (Kd.S_typed HO_6.out) (by decide)) BK275.out (by decide)) (fun k_ hk => by first | exact ⟨hk.2, hk.1.2⟩ | simp_all))).1 k_ hk_.symm) ?aF ?aO ?aB ?aS ?aL ?_
        (case aP => exact k45_mkM _ _ _ (⟨(⟨(rd_T45 l1 x13_1).f0.f0, (rd_T45 l1 x13_1).f0.f1, (rd_T45 l1 x13_1).f0.f2⟩ : S41), (rd_T45 l1 x13_1).f1, (⟨t277, t278, (⟨t281, t282, t283⟩ : S41)⟩ : S43)⟩ : S45) (Kd.R_mono (Kd.R_tight rfl (Kd.R_mono (ok' := fun k_ => ((fun k_ => k_ ≠ gb275)) k_ ∧ some k_ ≠ (.slice Ao18 x6_1.length co18 : Value).ownBlock) (Kd.R_types (Kd.R_apart' (HO280.out) (Kd.S_typed HO_6.out) (by decide)) BK275.out (by decide)) (fun k_ hk => by first | exact ⟨hk.2, hk.1.2⟩ | simp_all))) (fun _ h_ => h_)))
        (case aB => exact PB)
        (case aF => exact (fun k_ hk => Kd.freshB (g := gb275) (o := .cells #[.int .i64 ((rd_T45 l1 x13_1).f0.f0), .int .i64 ((rd_T45 l1 x13_1).f0.f1), .int .i64 ((rd_T45 l1 x13_1).f0.f2), .int .i64 ((rd_T45 l1 x13_1).f1), .int .i64 ((rd_T45 l1 x13_1).f2.f0), .slice A274_5 ((rd_T45 l1 x13_1).f2.f1).length c274_5, .int .i64 ((rd_T45 l1 x13_1).f2.f2.f0), .int .i64 ((rd_T45 l1 x13_1).f2.f2.f1), .int .i64 ((rd_T45 l1 x13_1).f2.f2.f2)] 45 (0, 0)) (PK BK275) k_ hk))
        (case aO => exact (SX HO_6.out (fun k_ hk => ⟨hk.1.2, fun e_ => hk.2 e_⟩)))
        (case aS => exact (below_size PB))
        (case aL => have := LMc15.out; omega)
        intro v285 w23 ho hb hg hat
        rw [← Ny284.out] at ho
        replace BK275 := ak (blk_grown (g := gb275) (o := .cells #[.int .i64 ((rd_T45 l1 x13_1).f0.f0), .int .i64 ((rd_T45 l1 x13_1).f0.f1), .int .i64 ((rd_T45 l1 x13_1).f0.f2), .int .i64 ((rd_T45 l1 x13_1).f1), .int .i64 ((rd_T45 l1 x13_1).f2.f0), .slice A274_5 ((rd_T45 l1 x13_1).f2.f1).length c274_5, .int .i64 ((rd_T45 l1 x13_1).f2.f2.f0), .int .i64 ((rd_T45 l1 x13_1).f2.f2.f1), .int .i64 ((rd_T45 l1 x13_1).f2.f2.f2)] 45 (0, 0)) (PK BK275) hg (Kd.S_away HO_6.out (fun _ hk => by first | exact hk.1.2 | simp_all)))
        replace HB := ak hb
        have HO286 := ak (ho)
        clear HO_6 HO280
        clear ho hb hg hat
        refine hK.out _ _ ⟨(blk_cell BK275.out 0).trans rfl, (blk_cell BK275.out 1).trans rfl, (blk_cell BK275.out 2).trans rfl, (blk_cell BK275.out 3).trans rfl, (blk_cell BK275.out 4).trans rfl, (blk_cell BK275.out 5).trans rfl, (blk_cell BK275.out 6).trans rfl, (blk_cell BK275.out 7).trans rfl, (blk_cell BK275.out 8).trans rfl⟩ (fun hHeld => ?_)
        clear hK K
        refine norm_ (a' := ?_) ?_ ?_
        rotate_left
        ·show Act.put _ (some 31) _ = _
         simp only [Act.put, List.setIfInBounds_toArray, List.set_cons_zero, List.set_cons_succ, i64_w, i32_w]
         rfl
        refine pu_ (i := 11) (N := some 6) #[true, true, true, true, true, true, true, true, true, true, true, true] HT_ ?_
        refine done_ (done_of HT_.out KR) ?_
        try go_wp2
        go_roundg k1
        case measure => have := HK1.out; omega
        case rel => exact ⟨(y284), (wrap64 (x13_1 + 1)), (by first | rfl | (simp; done) | (simp [*]; done)), H', ⟨by have := HK1.out; omega⟩, ⟨SX HO286.out (fun _ hk => trivial)⟩, ⟨PB⟩⟩
       ·rw [if_neg c15] at H
        exact absurd H (by simp)
     ·rw [if_neg c7] at H
      exact absurd H (by simp)
    ·rw [if_neg c6] at H
     exact absurd H (by simp)
   ·rw [if_neg c5] at H
    have c5b0 : decide (x13_1 < (l1.length : Int)) = false := decide_eq_false c5
    clear c5
    replace H := Option.bind_eq_some_iff.mp H
    obtain ⟨t287, A240, H⟩ := H
    replace H : (if t287 = true then (some (x6_1, true)) else ((impl_copyCaptures.f k1 l0).bind fun t288 => (some (t288, false)))) = some (r1, r2) := H
    have A24 := Aside0.mk A240
    clear A240
    by_cases c25 : t287 = true
    ·subst c25
     have H1 : (some (x6_1, true)) = some (r1, r2) := by rw [if_pos rfl] at H; exact H
     clear H
     have H := H1
     clear H1
     simp only [Option.some.injEq, Prod.mk.injEq] at H
     obtain ⟨rfl, rfl⟩ := H
     obtain ⟨Ao26, co26, eo26⟩ := Kd.S_slice HO_6.out
     (first | subst eo26 | (injection eo26 with f1_ f2_ f3_; have f4_ := f1_.symm; have f5_ := f3_.symm; clear f1_ f2_ f3_; subst f4_; subst f5_))
     go_wp2_with (first | ((with_reducible refine gate_callee (f := 19) rfl ?_); refine goesL_ (some 34) rfl rfl Try.func19 KR rfl #[.slice Ao26 x6_1.length co26] rfl AR ?_; (with_reducible refine (impl_AreCaptures.calls k1 _ _ x6_1 true _ ?side1 ?side2 A24.out).mono ?_); (case side1 => exact CR ((Kd.S_reads' HO_6.out).2.2)); (case side2 => exact (Kd.S_reads' HO_6.out).2.1); rintro e w27 ⟨rfl, hb⟩; refine ⟨_, rfl, ?_⟩; replace HO_6 := Sb HO_6 hb; replace HB := bs HB hb; (try clear hb); (try clear hb2); (try clear hk); (try clear hi)))
     go_ret2
     exact ⟨_, RT, by (with_reducible repeat (first | apply Kd.S_alloc | apply Kd.S_drewN | apply Kd.S_drew)); exact HO_6.out, PB⟩
    ·replace c25 := Bool.eq_false_iff.mpr c25
     subst c25
     have H1 : ((impl_copyCaptures.f k1 l0).bind fun t288 => (some (t288, false))) = some (r1, r2) := by rw [if_neg (show ¬ (false = true) by decide)] at H; exact H
     clear H
     have H := H1
     clear H1
     replace H := Option.bind_eq_some_iff.mp H
     obtain ⟨t288, A280, H⟩ := H
     replace H : (some (t288, false)) = some (r1, r2) := H
     have A28 := Aside0.mk A280
     clear A280
     simp only [Option.some.injEq, Prod.mk.injEq] at H
     obtain ⟨rfl, rfl⟩ := H
     obtain ⟨Ao29, co29, eo29⟩ := Kd.S_slice HO_6.out
     (first | subst eo29 | (injection eo29 with f1_ f2_ f3_; have f4_ := f1_.symm; have f5_ := f3_.symm; clear f1_ f2_ f3_; subst f4_; subst f5_))
     go_wp2_with (first | ((with_reducible refine gate_callee (f := 19) rfl ?_); refine goesL_ (some 34) rfl rfl Try.func19 KR rfl #[.slice Ao29 x6_1.length co29] rfl AR ?_; (with_reducible refine (impl_AreCaptures.calls k1 _ _ x6_1 false _ ?side1 ?side2 A24.out).mono ?_); (case side1 => exact CR ((Kd.S_reads' HO_6.out).2.2)); (case side2 => exact (Kd.S_reads' HO_6.out).2.1); rintro e w30 ⟨rfl, hb⟩; refine ⟨_, rfl, ?_⟩; replace HO_6 := Sb HO_6 hb; replace HB := bs HB hb; (try clear hb); (try clear hb2); (try clear hk); (try clear hi)) | ((with_reducible refine gate_callee (f := 16) rfl ?_); refine goesL_ (some 37) rfl rfl Try.func16 KR rfl #[.slice A0 l0.length c0] rfl AR ?_; (with_reducible refine (impl_copyCaptures.calls k1 _ _ l0 t288 _ ?side1 ?side2 A28.out).mono ?_); (case side1 => exact CR (Kd.C_below HR0.out HB.out)); (case side2 => exact HC0.out); rintro e w31 ⟨v289, rfl, ho0, hb⟩; refine ⟨_, rfl, ?_⟩; have HO290 := ak (Kd.S_lower (Kd.S_new' ho0 (Kd.S_lt (PS HO_6))) (below_size PB)); replace HO_6 := ak (Kd.S_elder' (PS HO_6) (Kd.S_base ho0) hb); replace HB := bs HB hb; (try clear hb); (try clear hb2); (try clear hk); (try clear hi); (try clear ho0)))
     go_ret2
     exact ⟨_, RT, SX HO290.out (fun _ hk => trivial), PB⟩

/-! ### laws_eqAddress: function 39 -/
def laws_eqAddress.f (a0_0 : Int) (a0_1 : Int) (a0_2 : Int) (a1_0 : Int) (a1_1 : Int) (a1_2 : Int) : Option (Bool) := if a0_0 = a1_0 then (if a0_1 = a1_1 then (if a0_2 = a1_2 then (some true) else (some false)) else (some false)) else (some false)
set_option maxHeartbeats 8000000 in
set_option maxRecDepth 100000 in
theorem laws_eqAddress.calls (a0_0 : Int) (a0_1 : Int) (a0_2 : Int) (a1_0 : Int) (a1_1 : Int) (a1_2 : Int) (r : Bool) (w : World) (h : laws_eqAddress.f a0_0 a0_1 a0_2 a1_0 a1_1 a1_2 = some r) :
  Calls Try.prog 39 #[.agg #[.int .i64 a0_0, .int .i64 a0_1, .int .i64 a0_2], .agg #[.int .i64 a1_0, .int .i64 a1_1, .int .i64 a1_2]] w fun e w' => e = .returned (.bool r) ∧ Below w.heap.size w w' := by
 have hu41 := Try.underlying41
 have HB := ak (Below.refl w.heap.size w)
 have H : (if a0_0 = a1_0 then (if a0_1 = a1_1 then (if a0_2 = a1_2 then (some true) else (some false)) else (some false)) else (some false)) = some r := h
 clear h
 by_cases c3 : a0_0 = a1_0
 ·rw [if_pos c3] at H
  have c3b0 : (a0_0 == a1_0) = true := beq_iff_eq.mpr c3
  have c3b1 : (a0_0 != a1_0) = false := bne_eq_false_iff_eq.mpr c3
  clear c3
  by_cases c4 : a0_1 = a1_1
  ·rw [if_pos c4] at H
   have c4b0 : (a0_1 == a1_1) = true := beq_iff_eq.mpr c4
   have c4b1 : (a0_1 != a1_1) = false := bne_eq_false_iff_eq.mpr c4
   clear c4
   by_cases c5 : a0_2 = a1_2
   ·rw [if_pos c5] at H
    have c5b0 : (a0_2 == a1_2) = true := beq_iff_eq.mpr c5
    have c5b1 : (a0_2 != a1_2) = false := bne_eq_false_iff_eq.mpr c5
    clear c5
    obtain rfl := Option.some.inj H
    go_enter Try.func39, Try.ntmps39
    go_wp2_with (first | ((with_reducible refine gate_dst (N := 2) rfl ?_); refine bx_ (N := 2) #[.int .i64 a0_0, .int .i64 a0_1, .int .i64 a0_2] 41 ?_; intro gb291 hg w6 hbox hb; have BK291 := ak hbox; have GW291 := gy hg HB; have GE291 := gy hg HB; replace HB := bs HB hb; clear hb hbox hg) | ((with_reducible refine gate_dst (N := 3) rfl ?_); refine bx_ (N := 3) #[.int .i64 a1_0, .int .i64 a1_1, .int .i64 a1_2] 41 ?_; intro gb292 hg w7 hbox hb; have BK292 := ak hbox; have GW292 := gy hg HB; have GE292 := gy hg HB; replace HB := bs HB hb; have NB291_292 := gm hg BK291; have NB292_291 := gn hg BK291; replace BK291 := kf BK291 hb; clear hb hbox hg; have hnb8 := NB291_292.out; have hnc8 := NB292_291.out; obtain ⟨_, _, _, _, _, _⟩ := bc3 BK291; obtain ⟨_, _, _, _, _, _⟩ := bc3 BK292))
    go_ret
    exact ⟨RT, PB⟩
   ·rw [if_neg c5] at H
    have c5b0 : (a0_2 == a1_2) = false := beq_eq_false_iff_ne.mpr c5
    have c5b1 : (a0_2 != a1_2) = true := bne_iff_ne.mpr c5
    obtain rfl := Option.some.inj H
    go_enter Try.func39, Try.ntmps39
    go_wp2_with (first | ((with_reducible refine gate_dst (N := 2) rfl ?_); refine bx_ (N := 2) #[.int .i64 a0_0, .int .i64 a0_1, .int .i64 a0_2] 41 ?_; intro gb291 hg w11 hbox hb; have BK291 := ak hbox; have GW291 := gy hg HB; have GE291 := gy hg HB; replace HB := bs HB hb; clear hb hbox hg) | ((with_reducible refine gate_dst (N := 3) rfl ?_); refine bx_ (N := 3) #[.int .i64 a1_0, .int .i64 a1_1, .int .i64 a1_2] 41 ?_; intro gb292 hg w12 hbox hb; have BK292 := ak hbox; have GW292 := gy hg HB; have GE292 := gy hg HB; replace HB := bs HB hb; have NB291_292 := gm hg BK291; have NB292_291 := gn hg BK291; replace BK291 := kf BK291 hb; clear hb hbox hg; have hnb13 := NB291_292.out; have hnc13 := NB292_291.out; obtain ⟨_, _, _, _, _, _⟩ := bc3 BK291; obtain ⟨_, _, _, _, _, _⟩ := bc3 BK292))
    go_ret
    exact ⟨RT, PB⟩
  ·rw [if_neg c4] at H
   have c4b0 : (a0_1 == a1_1) = false := beq_eq_false_iff_ne.mpr c4
   have c4b1 : (a0_1 != a1_1) = true := bne_iff_ne.mpr c4
   obtain rfl := Option.some.inj H
   go_enter Try.func39, Try.ntmps39
   go_wp2_with (first | ((with_reducible refine gate_dst (N := 2) rfl ?_); refine bx_ (N := 2) #[.int .i64 a0_0, .int .i64 a0_1, .int .i64 a0_2] 41 ?_; intro gb291 hg w16 hbox hb; have BK291 := ak hbox; have GW291 := gy hg HB; have GE291 := gy hg HB; replace HB := bs HB hb; clear hb hbox hg) | ((with_reducible refine gate_dst (N := 3) rfl ?_); refine bx_ (N := 3) #[.int .i64 a1_0, .int .i64 a1_1, .int .i64 a1_2] 41 ?_; intro gb292 hg w17 hbox hb; have BK292 := ak hbox; have GW292 := gy hg HB; have GE292 := gy hg HB; replace HB := bs HB hb; have NB291_292 := gm hg BK291; have NB292_291 := gn hg BK291; replace BK291 := kf BK291 hb; clear hb hbox hg; have hnb18 := NB291_292.out; have hnc18 := NB292_291.out; obtain ⟨_, _, _, _, _, _⟩ := bc3 BK291; obtain ⟨_, _, _, _, _, _⟩ := bc3 BK292))
   go_ret
   exact ⟨RT, PB⟩
 ·rw [if_neg c3] at H
  have c3b0 : (a0_0 == a1_0) = false := beq_eq_false_iff_ne.mpr c3
  have c3b1 : (a0_0 != a1_0) = true := bne_iff_ne.mpr c3
  obtain rfl := Option.some.inj H
  go_enter Try.func39, Try.ntmps39
  go_wp2_with (first | ((with_reducible refine gate_dst (N := 2) rfl ?_); refine bx_ (N := 2) #[.int .i64 a0_0, .int .i64 a0_1, .int .i64 a0_2] 41 ?_; intro gb291 hg w21 hbox hb; have BK291 := ak hbox; have GW291 := gy hg HB; have GE291 := gy hg HB; replace HB := bs HB hb; clear hb hbox hg) | ((with_reducible refine gate_dst (N := 3) rfl ?_); refine bx_ (N := 3) #[.int .i64 a1_0, .int .i64 a1_1, .int .i64 a1_2] 41 ?_; intro gb292 hg w22 hbox hb; have BK292 := ak hbox; have GW292 := gy hg HB; have GE292 := gy hg HB; replace HB := bs HB hb; have NB291_292 := gm hg BK291; have NB292_291 := gn hg BK291; replace BK291 := kf BK291 hb; clear hb hbox hg; have hnb23 := NB291_292.out; have hnc23 := NB292_291.out; obtain ⟨_, _, _, _, _, _⟩ := bc3 BK291; obtain ⟨_, _, _, _, _, _⟩ := bc3 BK292))
  go_ret
  exact ⟨RT, PB⟩

/-! ### laws_eqIntS: function 48 -/
def laws_eqIntS.l0 : Nat → List Int → List Int → Int → Option (Bool)
  | 0, _, _, _ => none
  | k + 1, x0, x1, x5 => if x5 < (x0.length : Int) then (if 0 ≤ x5 then (if x5 < (x1.length : Int) then (if (rd x0 x5) = (rd x1 x5) then (laws_eqIntS.l0 k x0 x1 (wrap64 (x5 + 1))) else (some false)) else (none)) else (none)) else (some true)
def laws_eqIntS.f (k : Nat) (l0 : List Int) (l1 : List Int) : Option (Bool) := if (l0.length : Int) = (l1.length : Int) then (laws_eqIntS.l0 k l0 l1 0) else (some false)
set_option maxHeartbeats 8000000 in
set_option maxRecDepth 100000 in
theorem laws_eqIntS.calls (k : Nat) (A0 : Option Addr) (c0 : Nat) (l0 : List Int) (A1 : Option Addr) (c1 : Nat) (l1 : List Int) (r : Bool) (w : World) (hr0 : Kd.C (Kd.int .i64) w A0 l0.length l0) (hc0 : l0.length ≤ c0) (hr1 : Kd.C (Kd.int .i64) w A1 l1.length l1) (hc1 : l1.length ≤ c1) (h : laws_eqIntS.f k l0 l1 = some r) :
  Calls Try.prog 48 #[.slice A0 l0.length c0, .slice A1 l1.length c1] w fun e w' => e = .returned (.bool r) ∧ Drawn0 w w' := by
 have HR0 := Aside0.mk hr0
 have HC0 := Aside0.mk hc0
 clear hr0 hc0
 have HR1 := Aside0.mk hr1
 have HC1 := Aside0.mk hc1
 clear hr1 hc1
 have H : (if (l0.length : Int) = (l1.length : Int) then (laws_eqIntS.l0 k l0 l1 0) else (some false)) = some r := h
 clear h
 by_cases c3 : (l0.length : Int) = (l1.length : Int)
 ·rw [if_pos c3] at H
  have c3b0 : ((l0.length : Int) == (l1.length : Int)) = true := beq_iff_eq.mpr c3
  have c3b1 : ((l0.length : Int) != (l1.length : Int)) = false := bne_eq_false_iff_eq.mpr c3
  have c3b2 : (l0.length == l1.length) = true := by first | simpa using c3 | (simp at c3 ⊢; omega)
  clear c3
  have H' := Aside0.mk H
  clear H
  go_enter Try.func48, Try.ntmps48
  go_wp2
  repeat (go_quiet (fail); try go_wp2)
  go_loopg [5] k (fun kq v5 w' => ∃ (x5_1 : Int), v5 = .int .i64 x5_1 ∧ Aside0 (laws_eqIntS.l0 kq l0 l1 x5_1 = some r) ∧ Aside0 (kq ≤ k) ∧ Drawn0 w w')
  case atStart => exact ⟨(0), (by first | rfl | (simp; done) | (simp [*]; done)), H', ⟨Nat.le_refl _⟩, by repeat (first | exact Drawn0.refl _ | apply Drawn0.step)⟩
  case round =>
   clear H'
   (try clear c1); (try clear p2); (try clear c3); (try clear c3b0); (try clear c3b1); (try clear c3b2)
   obtain ⟨x5_1, rfl, HA, HK1, ⟨m1, rfl⟩⟩ := hrel
   cases gk with
   | zero => exact absurd HA.out (by simp [laws_eqIntS.l0])
   | succ k1 =>
    have H := HA.out
    clear HA
    simp only [laws_eqIntS.l0] at H
    by_cases c4 : x5_1 < (l0.length : Int)
    ·rw [if_pos c4] at H
     have c4b0 : decide (x5_1 < (l0.length : Int)) = true := decide_eq_true c4
     clear c4
     by_cases c5 : 0 ≤ x5_1
     ·rw [if_pos c5] at H
      have c5b0 : decide (0 ≤ x5_1) = true := decide_eq_true c5
      clear c5
      by_cases c6 : x5_1 < (l1.length : Int)
      ·rw [if_pos c6] at H
       have c6b0 : decide (x5_1 < (l1.length : Int)) = true := decide_eq_true c6
       clear c6
       by_cases c7 : (rd l0 x5_1) = (rd l1 x5_1)
       ·rw [if_pos c7] at H
        have c7b0 : ((rd l0 x5_1) == (rd l1 x5_1)) = true := beq_iff_eq.mpr c7
        have c7b1 : ((rd l0 x5_1) != (rd l1 x5_1)) = false := bne_eq_false_iff_eq.mpr c7
        clear c7
        have H' := Aside0.mk H
        clear H
        have p293 : 0 ≤ (x5_1 : Int) := of_decide_eq_true (by first | (with_reducible assumption) | assumption)
        have q293 : x5_1 < (l0.length : Int) := of_decide_eq_true (by first | (with_reducible assumption) | assumption)
        obtain ⟨ad293, e293, hx293_0⟩ := Kd.at_int HR0.out x5_1 p293 q293
        cases e293
        replace p293 := eq_true p293
        replace q293 := eq_true q293
        have p294 : 0 ≤ (x5_1 : Int) := of_decide_eq_true (by first | (with_reducible assumption) | assumption)
        have q294 : x5_1 < (l1.length : Int) := of_decide_eq_true (by first | (with_reducible assumption) | assumption)
        obtain ⟨ad294, e294, hx294_0⟩ := Kd.at_int HR1.out x5_1 p294 q294
        cases e294
        replace p294 := eq_true p294
        replace q294 := eq_true q294
        go_wp2
        repeat (go_quiet (fail); try go_wp2)
        go_roundg k1
        case measure => have := HK1.out; omega
        case rel => exact ⟨(wrap64 (x5_1 + 1)), (by first | rfl | (simp; done) | (simp [*]; done)), H', ⟨by have := HK1.out; omega⟩, by repeat (first | exact Drawn0.refl _ | apply Drawn0.step)⟩
       ·rw [if_neg c7] at H
        have c7b0 : ((rd l0 x5_1) == (rd l1 x5_1)) = false := beq_eq_false_iff_ne.mpr c7
        have c7b1 : ((rd l0 x5_1) != (rd l1 x5_1)) = true := bne_iff_ne.mpr c7
        obtain rfl := Option.some.inj H
        have p293 : 0 ≤ (x5_1 : Int) := of_decide_eq_true (by first | (with_reducible assumption) | assumption)
        have q293 : x5_1 < (l0.length : Int) := of_decide_eq_true (by first | (with_reducible assumption) | assumption)
        obtain ⟨ad293, e293, hx293_0⟩ := Kd.at_int HR0.out x5_1 p293 q293
        cases e293
        replace p293 := eq_true p293
        replace q293 := eq_true q293
        have p294 : 0 ≤ (x5_1 : Int) := of_decide_eq_true (by first | (with_reducible assumption) | assumption)
        have q294 : x5_1 < (l1.length : Int) := of_decide_eq_true (by first | (with_reducible assumption) | assumption)
        obtain ⟨ad294, e294, hx294_0⟩ := Kd.at_int HR1.out x5_1 p294 q294
        cases e294
        replace p294 := eq_true p294
        replace q294 := eq_true q294
        go_wp2
        repeat (go_quiet (fail); try go_wp2)
        go_ret
        exact ⟨by first | rfl | (simp; done) | (simp [*]; done), by repeat (first | exact Drawn0.refl _ | apply Drawn0.step)⟩
      ·rw [if_neg c6] at H
       exact absurd H (by simp)
     ·rw [if_neg c5] at H
      exact absurd H (by simp)
    ·rw [if_neg c4] at H
     have c4b0 : decide (x5_1 < (l0.length : Int)) = false := decide_eq_false c4
     clear c4
     obtain rfl := Option.some.inj H
     go_wp2
     repeat (go_quiet (fail); try go_wp2)
     go_ret
     exact ⟨by first | rfl | (simp; done) | (simp [*]; done), by repeat (first | exact Drawn0.refl _ | apply Drawn0.step)⟩
 ·rw [if_neg c3] at H
  have c3b0 : ((l0.length : Int) == (l1.length : Int)) = false := beq_eq_false_iff_ne.mpr c3
  have c3b1 : ((l0.length : Int) != (l1.length : Int)) = true := bne_iff_ne.mpr c3
  have c3b2 : (l0.length == l1.length) = false := by first | simpa using c3 | (simp at c3 ⊢; omega)
  obtain rfl := Option.some.inj H
  go_enter Try.func48, Try.ntmps48
  go_wp2
  repeat (go_quiet (fail); try go_wp2)
  go_ret
  exact ⟨by first | rfl | (simp; done) | (simp [*]; done), by repeat (first | exact Drawn0.refl _ | apply Drawn0.step)⟩

end Go.Proofs.Ytmcfdpodoebokaa.MFnExactAddCaptures
