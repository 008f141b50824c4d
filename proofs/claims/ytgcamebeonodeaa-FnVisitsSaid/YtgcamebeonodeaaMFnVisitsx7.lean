-- Written by a program of this session out of the translation's own print. Not trusted: Lean checks it.
import Derived.Test.YtgcamebeonodeaaShr2
import Derived.Test.YtgcamebeonodeaaMFnVisitsx0
import Derived.Test.YtgcamebeonodeaaMFnVisitsx1
import Derived.Test.YtgcamebeonodeaaMFnVisitsx6
namespace Go.Proofs.Ytgcamebeonodeaa.MFnVisits
open Go.RowKit Go.Proofs.YtgcamebeonodeaaW.PrintWords Go.Proofs.YtgcamebeonodeaaW.PrintLast Go.Proofs.YtgcamebeonodeaaW.PrintMore
attribute [local go_sem] max2_int min2_int max_two min_two max_three min_three max_four min_four   -- for this text's walks alone
set_option linter.unusedVariables false
set_option linter.unusedSimpArgs false

attribute [local go_sem high] eqA26
/-! ### impl_ValueOfResource: function 35 -/
mutual
def impl_ValueOfResource.j0 : Nat → Bool → Int → List Int → Int → Int → Int → Option (Int)
  | 0, _, _, _, _, _, _ => none
  | k + 1, x14, x428000, x428001, x428002, x428003, x428004 => if x14 = true then (some 0) else (impl_ValueOfResource.l0 k 0 x428001 (x428001.length : Int) 0)
def impl_ValueOfResource.l0 : Nat → Int → List Int → Int → Int → Option (Int)
  | 0, _, _, _, _ => none
  | k + 1, x3, x16, x17, x18 => if x18 < x17 then (if 0 ≤ x18 then (if x18 < (x16.length : Int) then (impl_ValueOfResource.l0 k (wrap64 (x3 + (rd x16 x18))) x16 x17 (wrap64 (x18 + 1))) else (none)) else (none)) else (if (Int.tmod x3 1000) < 999 then (some (wrap64 ((Int.tmod x3 1000) + 1))) else (some (Int.tmod x3 1000)))
end
def impl_ValueOfResource.f (k : Nat) (a0_0 : Int) (l0_1 : List Int) (a0_2 : Int) (a0_3 : Int) (a0_4 : Int) : Option (Int) := (impl_IsResource.f k a0_0 l0_1 a0_2 a0_3 a0_4).bind fun t428 => (if t428 = true then ((impl_hasBody.f a0_0).bind fun t429 => (impl_ValueOfResource.j0 k (!t429) a0_0 l0_1 a0_2 a0_3 a0_4)) else (impl_ValueOfResource.j0 k true a0_0 l0_1 a0_2 a0_3 a0_4))
set_option maxHeartbeats 8000000 in
set_option maxRecDepth 100000 in
theorem impl_ValueOfResource.calls (k : Nat) (a0_0 : Int) (A0_1 : Option Addr) (c0_1 : Nat) (l0_1 : List Int) (a0_2 : Int) (a0_3 : Int) (a0_4 : Int) (r : Int) (w : World) (hr0_1 : Kd.C (Kd.int .i64) w A0_1 l0_1.length l0_1) (hc0_1 : l0_1.length ≤ c0_1) (h : impl_ValueOfResource.f k a0_0 l0_1 a0_2 a0_3 a0_4 = some r) :
  Calls Try.prog 35 #[.agg #[.int .i64 a0_0, .slice A0_1 l0_1.length c0_1, .int .i64 a0_2, .int .i64 a0_3, .int .i64 a0_4]] w fun e w' => e = .returned (.int .i64 r) ∧ Below w.heap.size w w' := by
 have hu38 := Try.underlying38
 have HR0_1 := Aside0.mk hr0_1
 have HC0_1 := Aside0.mk hc0_1
 clear hr0_1 hc0_1
 have HB := ak (Below.refl w.heap.size w)
 have H : ((impl_IsResource.f k a0_0 l0_1 a0_2 a0_3 a0_4).bind fun t428 => (if t428 = true then ((impl_hasBody.f a0_0).bind fun t429 => (impl_ValueOfResource.j0 k (!t429) a0_0 l0_1 a0_2 a0_3 a0_4)) else (impl_ValueOfResource.j0 k true a0_0 l0_1 a0_2 a0_3 a0_4))) = some r := h
 clear h
 have HC2 := Aside0.mk H
 clear H
 go_enter Try.func35, Try.ntmps35
 go_upto_region 1 with (first | ((with_reducible refine gate_dst (N := 1) rfl ?_); refine bx_ (N := 1) #[.int .i64 a0_0, .slice A0_1 l0_1.length c0_1, .int .i64 a0_2, .int .i64 a0_3, .int .i64 a0_4] 38 ?_; intro gb427 hg w3 hbox hb; have BK427 := ak hbox; have GW427 := gy hg HB; have GE427 := gy hg HB; replace HB := bs HB hb; clear hb hbox hg))
 (try simp only [Act.put, List.setIfInBounds_toArray, List.set_cons_zero, List.set_cons_succ])
 go_cut [14] (fun v14 wc => ∃ (kq : Nat) (x14_1 : Bool), v14 = .bool x14_1 ∧ Aside0 (impl_ValueOfResource.j0 kq x14_1 a0_0 l0_1 a0_2 a0_3 a0_4 = some r) ∧ Aside0 (kq ≤ k) ∧ Aside0 (wc.heap[gb427]? = some (.cells #[.int .i64 a0_0, (.slice A0_1 l0_1.length c0_1), .int .i64 a0_2, .int .i64 a0_3, .int .i64 a0_4] 38 (0, 0))) ∧ Aside0 (Below w.heap.size w wc))
 case first =>
  have H := HC2.out
  clear HC2
  replace H := Option.bind_eq_some_iff.mp H
  obtain ⟨t428, A40, H⟩ := H
  replace H : (if t428 = true then ((impl_hasBody.f a0_0).bind fun t429 => (impl_ValueOfResource.j0 k (!t429) a0_0 l0_1 a0_2 a0_3 a0_4)) else (impl_ValueOfResource.j0 k true a0_0 l0_1 a0_2 a0_3 a0_4)) = some r := H
  have A4 := Aside0.mk A40
  clear A40
  by_cases c5 : t428 = true
  ·subst c5
   have H1 : ((impl_hasBody.f a0_0).bind fun t429 => (impl_ValueOfResource.j0 k (!t429) a0_0 l0_1 a0_2 a0_3 a0_4)) = some r := by rw [if_pos rfl] at H; exact H
   clear H
   have H := H1
   clear H1
   replace H := Option.bind_eq_some_iff.mp H
   obtain ⟨t429, A60, H⟩ := H
   replace H : (impl_ValueOfResource.j0 k (!t429) a0_0 l0_1 a0_2 a0_3 a0_4) = some r := H
   have A6 := Aside0.mk A60
   clear A60
   have H' := Aside0.mk H
   clear H
   obtain ⟨hcz7_0, hcz7_1, hcz7_2, hcz7_3, hcz7_4, hfz7_0, hfz7_1, hfz7_2, hfz7_3, hfz7_4⟩ := bc5 BK427
   go_wp2_with (first | ((with_reducible refine gate_callee (f := 36) rfl ?_); refine goesL_ (some 7) rfl rfl Try.func36 KR rfl #[.agg #[.int .i64 a0_0, .slice A0_1 l0_1.length c0_1, .int .i64 a0_2, .int .i64 a0_3, .int .i64 a0_4]] rfl AR ?_; (with_reducible refine (impl_IsResource.calls k a0_0 _ _ l0_1 a0_2 a0_3 a0_4 true _ ?side1 ?side2 A4.out).mono ?_); (case side1 => exact CR (Kd.C_below HR0_1.out HB.out)); (case side2 => exact HC0_1.out); rintro e w8 ⟨rfl, hb⟩; refine ⟨_, rfl, ?_⟩; replace BK427 := kf BK427 hb; replace HB := bs HB hb; (try clear hb); (try clear hb2); (try clear hk); (try clear hi); obtain ⟨hcz9_0, hcz9_1, hcz9_2, hcz9_3, hcz9_4, hfz9_0, hfz9_1, hfz9_2, hfz9_3, hfz9_4⟩ := bc5 BK427) | (go_at_call 95; (with_reducible refine (impl_hasBody.calls a0_0 t429 _ A6.out).mono ?_); rintro e w' ⟨rfl, ⟨nd, rfl⟩⟩))
   go_meet
   case rel => exact ⟨_, (!t429), (by first | rfl | (simp; done) | (simp [*]; done)), H', ⟨by first | omega | exact Nat.le_refl _⟩, ⟨PK BK427⟩, ⟨PB⟩⟩
  ·replace c5 := Bool.eq_false_iff.mpr c5
   subst c5
   have H1 : (impl_ValueOfResource.j0 k true a0_0 l0_1 a0_2 a0_3 a0_4) = some r := by rw [if_neg (show ¬ (false = true) by decide)] at H; exact H
   clear H
   have H := H1
   clear H1
   have H' := Aside0.mk H
   clear H
   obtain ⟨hcz10_0, hcz10_1, hcz10_2, hcz10_3, hcz10_4, hfz10_0, hfz10_1, hfz10_2, hfz10_3, hfz10_4⟩ := bc5 BK427
   go_wp2_with (first | ((with_reducible refine gate_callee (f := 36) rfl ?_); refine goesL_ (some 7) rfl rfl Try.func36 KR rfl #[.agg #[.int .i64 a0_0, .slice A0_1 l0_1.length c0_1, .int .i64 a0_2, .int .i64 a0_3, .int .i64 a0_4]] rfl AR ?_; (with_reducible refine (impl_IsResource.calls k a0_0 _ _ l0_1 a0_2 a0_3 a0_4 false _ ?side1 ?side2 A4.out).mono ?_); (case side1 => exact CR (Kd.C_below HR0_1.out HB.out)); (case side2 => exact HC0_1.out); rintro e w11 ⟨rfl, hb⟩; refine ⟨_, rfl, ?_⟩; replace BK427 := kf BK427 hb; replace HB := bs HB hb; (try clear hb); (try clear hb2); (try clear hk); (try clear hi)))
   go_meet
   case rel => exact ⟨_, (true), (by first | rfl | (simp; done) | (simp [*]; done)), H', ⟨by first | omega | exact Nat.le_refl _⟩, ⟨PK BK427⟩, ⟨PB⟩⟩
 case rest =>
  clear HC2
  (try clear p2); (try clear c3); (try clear c5); (try clear hcz10_0); (try clear hcz10_1); (try clear hcz10_2); (try clear hcz10_3); (try clear hcz10_4); (try clear hcz7_0); (try clear hcz7_1); (try clear hcz7_2); (try clear hcz7_3); (try clear hcz7_4); (try clear hcz9_0); (try clear hcz9_1); (try clear hcz9_2); (try clear hcz9_3); (try clear hcz9_4); (try clear hfz10_0); (try clear hfz10_1); (try clear hfz10_2); (try clear hfz10_3); (try clear hfz10_4); (try clear hfz7_0); (try clear hfz7_1); (try clear hfz7_2); (try clear hfz7_3); (try clear hfz7_4); (try clear hfz9_0); (try clear hfz9_1); (try clear hfz9_2); (try clear hfz9_3); (try clear hfz9_4)
  obtain ⟨kq, x14_1, rfl, HA, HJ1, BK427, HB⟩ := hcut
  cases kq with
  | zero => exact absurd HA.out (by simp [impl_ValueOfResource.j0])
  | succ kj1 =>
   have H := HA.out
   clear HA
   simp only [impl_ValueOfResource.j0] at H
   by_cases c12 : x14_1 = true
   ·subst c12
    have H1 : (some 0) = some r := by rw [if_pos rfl] at H; exact H
    clear H
    have H := H1
    clear H1
    obtain rfl := Option.some.inj H
    go_wp2
    go_ret
    exact ⟨RT, PB⟩
   ·replace c12 := Bool.eq_false_iff.mpr c12
    subst c12
    have H1 : (impl_ValueOfResource.l0 kj1 0 l0_1 (l0_1.length : Int) 0) = some r := by rw [if_neg (show ¬ (false = true) by decide)] at H; exact H
    clear H
    have H := H1
    clear H1
    have H' := Aside0.mk H
    clear H
    obtain ⟨hcz13_0, hcz13_1, hcz13_2, hcz13_3, hcz13_4, hfz13_0, hfz13_1, hfz13_2, hfz13_3, hfz13_4⟩ := bc5 BK427
    go_wp2
    go_loopg [3, 18] kj1 (fun kq v3 v18 w' => ∃ (x3_2 : Int) (x18_2 : Int), v3 = .int .i64 x3_2 ∧ v18 = .int .i64 x18_2 ∧ Aside0 (impl_ValueOfResource.l0 kq x3_2 l0_1 (l0_1.length : Int) x18_2 = some r) ∧ Aside0 (kq ≤ kj1) ∧ Aside0 (w'.heap[gb427]? = some (.cells #[.int .i64 a0_0, (.slice A0_1 l0_1.length c0_1), .int .i64 a0_2, .int .i64 a0_3, .int .i64 a0_4] 38 (0, 0))) ∧ Aside0 (Below w.heap.size w w'))
    case atStart => exact ⟨(0), (0), (by first | rfl | (simp; done) | (simp [*]; done)), (by first | rfl | (simp; done) | (simp [*]; done)), H', ⟨Nat.le_refl _⟩, ⟨PK BK427⟩, ⟨PB⟩⟩
    case round =>
     clear H'
     (try clear c1); (try clear p2); (try clear c3); (try clear c5); (try clear c12); (try clear hcz10_0); (try clear hcz10_1); (try clear hcz10_2); (try clear hcz10_3); (try clear hcz10_4); (try clear hcz13_0); (try clear hcz13_1); (try clear hcz13_2); (try clear hcz13_3); (try clear hcz13_4); (try clear hcz7_0); (try clear hcz7_1); (try clear hcz7_2); (try clear hcz7_3); (try clear hcz7_4); (try clear hcz9_0); (try clear hcz9_1); (try clear hcz9_2); (try clear hcz9_3); (try clear hcz9_4); (try clear hfz10_0); (try clear hfz10_1); (try clear hfz10_2); (try clear hfz10_3); (try clear hfz10_4); (try clear hfz13_0); (try clear hfz13_1); (try clear hfz13_2); (try clear hfz13_3); (try clear hfz13_4); (try clear hfz7_0); (try clear hfz7_1); (try clear hfz7_2); (try clear hfz7_3); (try clear hfz7_4); (try clear hfz9_0); (try clear hfz9_1); (try clear hfz9_2); (try clear hfz9_3); (try clear hfz9_4); (try clear p2)
     obtain ⟨x3_2, x18_2, rfl, rfl, HA, HK2, BK427, HB⟩ := hrel
     cases gk with
     | zero => exact absurd HA.out (by simp [impl_ValueOfResource.l0])
     | succ k2 =>
      have H := HA.out
      clear HA
      simp only [impl_ValueOfResource.l0] at H
      by_cases c14 : x18_2 < (l0_1.length : Int)
      ·rw [if_pos c14] at H
       have c14b0 : decide (x18_2 < (l0_1.length : Int)) = true := decide_eq_true c14
       clear c14
       by_cases c15 : 0 ≤ x18_2
       ·rw [if_pos c15] at H
        have c15b0 : decide (0 ≤ x18_2) = true := decide_eq_true c15
        clear c15
        by_cases c16 : x18_2 < (l0_1.length : Int)
        ·rw [if_pos c16] at H
         have c16b0 : decide (x18_2 < (l0_1.length : Int)) = true := decide_eq_true c16
         clear c16
         have H' := Aside0.mk H
         clear H
         have p430 : 0 ≤ (x18_2 : Int) := of_decide_eq_true (by first | (with_reducible assumption) | assumption)
         have q430 : x18_2 < (l0_1.length : Int) := of_decide_eq_true (by first | (with_reducible assumption) | assumption)
         obtain ⟨ad430, e430, hx430_0⟩ := Kd.at_int HR0_1.out x18_2 p430 q430
         cases e430
         replace hx430_0 := hx_ HB hx430_0
         replace p430 := eq_true p430
         replace q430 := eq_true q430
         go_wp2
         go_roundg k2
         case measure => have := HJ1.out; have := HK2.out; omega
         case rel => exact ⟨(wrap64 (x3_2 + (rd l0_1 x18_2))), (wrap64 (x18_2 + 1)), (by first | rfl | (simp; done) | (simp [*]; done)), (by first | rfl | (simp; done) | (simp [*]; done)), H', ⟨by have := HJ1.out; have := HK2.out; omega⟩, ⟨PK BK427⟩, ⟨PB⟩⟩
        ·rw [if_neg c16] at H
         exact absurd H (by simp)
       ·rw [if_neg c15] at H
        exact absurd H (by simp)
      ·rw [if_neg c14] at H
       have c14b0 : decide (x18_2 < (l0_1.length : Int)) = false := decide_eq_false c14
       clear c14
       by_cases c17 : (Int.tmod x3_2 1000) < 999
       ·rw [if_pos c17] at H
        have c17b0 : decide ((Int.tmod x3_2 1000) < 999) = true := decide_eq_true c17
        clear c17
        obtain rfl := Option.some.inj H
        go_wp2
        go_ret
        exact ⟨RT, PB⟩
       ·rw [if_neg c17] at H
        have c17b0 : decide ((Int.tmod x3_2 1000) < 999) = false := decide_eq_false c17
        clear c17
        obtain rfl := Option.some.inj H
        go_wp2
        go_ret
        exact ⟨RT, PB⟩

/-! ### slices_Clone_int_int: function 131 -/
def slices_Clone_int_int.f (l0 : List Int) : Option (List Int) := (some (([] : List Int) : List Int)).bind fun y431 => (if y431.length + l0.length < 17592186044416 then (some (y431 ++ l0)) else (none))
set_option maxHeartbeats 8000000 in
set_option maxRecDepth 100000 in
theorem slices_Clone_int_int.calls (A0 : Option Addr) (c0 : Nat) (l0 : List Int) (r : List Int) (w : World) (hr0 : Kd.C (Kd.int .i64) w A0 l0.length l0) (hc0 : l0.length ≤ c0) (h : slices_Clone_int_int.f l0 = some r) :
  Calls Try.prog 131 #[.slice A0 l0.length c0] w fun e w' => ∃ v0_ : Value, e = .returned (v0_) ∧ Kd.R (Kd.int .i64) 3 w' w.heap.size (fun _ => True) v0_ r ∧ Below w.heap.size w w' := by
 cases A0 with
 | none =>
  have hz_ : l0.length = 0 := C_none_length hr0
  obtain rfl : l0 = [] := List.eq_nil_of_length_eq_zero hz_
  obtain rfl : r = [] := by
   have h2_ := h
   simp [slices_Clone_int_int.f] at h2_
   exact h2_
  have hnn_ : ∀ W, (binOp .eql 36 (.slice none 0 c0) (.slice none 0 0)).run Try.prog W = .ok (.bool true) W := fun W => eql_nil_none (P := Try.prog) W 36 3 0 c0 Try.underlying36
  go_enter Try.func131, Try.ntmps131
  go_wp2
  go_ret
  exact ⟨_, rfl, Kd.R_nil _ _ _ _ _, Below.refl _ _⟩
 | some ad_ =>
  have hnn_ : ∀ W, (binOp .eql 36 (.slice (some ad_) l0.length c0) (.slice none 0 0)).run Try.prog W = .ok (.bool false) W := fun W => eql_nil_some (P := Try.prog) W 36 3 ad_ l0.length c0 Try.underlying36
  have HR0 := Aside0.mk hr0
  have HC0 := Aside0.mk hc0
  clear hr0 hc0
  have HB := ak (Below.refl w.heap.size w)
  have H : ((some (([] : List Int) : List Int)).bind fun y431 => (if y431.length + l0.length < 17592186044416 then (some (y431 ++ l0)) else (none))) = some r := h
  clear h
  obtain ⟨y431, hy431⟩ : ∃ y_ : List Int, y_ = (([] : List Int)) := ⟨_, rfl⟩
  replace H : (if y431.length + l0.length < 17592186044416 then (some (y431 ++ l0)) else (none)) = some r := by first | (rw [hy431]; with_reducible exact H) | (have H2_ := (Option.bind_some _ _).symm.trans H; rw [hy431]; with_reducible exact H2_) | (have H2_ := (Option.bind_some _ _).symm.trans H; with_reducible exact H2_) | with_reducible exact H | (rw [hy431]; exact H) | exact H
  have Ny431 := Aside0.mk hy431
  clear hy431
  by_cases c2 : y431.length + l0.length < 17592186044416
  ·rw [if_pos c2] at H
   have LMc2 := Aside0.mk c2
   clear c2
   obtain ⟨y434, hy434⟩ : ∃ y_ : List Int, y_ = (y431 ++ l0) := ⟨_, rfl⟩
   replace H : (some y434) = some r := by first | (rw [hy434]; with_reducible exact H) | (have H2_ := (Option.bind_some _ _).symm.trans H; rw [hy434]; with_reducible exact H2_) | (have H2_ := (Option.bind_some _ _).symm.trans H; with_reducible exact H2_) | with_reducible exact H | (rw [hy434]; exact H) | exact H
   have Ny434 := Aside0.mk hy434
   clear hy434
   obtain rfl := Option.some.inj H
   go_enter Try.func131, Try.ntmps131
   go_wp2_with (first | ((with_reducible refine gate_dst (N := 5) rfl ?_); refine Kd.R_lit (Kd.int .i64) _ 3 ?hg (N := 5) ?hd (xs := ([] : List Int)) (inner := []) (ok := fun _ => True) (okp := fun _ => True) ?hr ?hp (fun _ hk => hk) trivial (Below.refl _ _) (Nat.le_refl _) (by simp) ?_; (case hd => rfl); (case hg => rfl); (case hr => first | (go_simp; done) | (go_simp; rfl)); (case hp => exact (Reps.none _ _)); intro v432 w3 ho4 hb hg_ hnew_; clear hg_ hnew_; (first | rw [← Ny431.out] at ho4 | (simp only [Int.reduceToNat] at ho4; rw [← Ny431.out] at ho4)); have HO433 := Rn0 ho4 HB; replace HB := bs HB hb; clear hb ho4) | ((with_reducible refine gate_builtin (b := .append) (xs := #[.tmp 5, .tmp 6]) rfl ?_); at_builtin; refine Kd.R_append_rows (Kd.int .i64) (w0 := w) w.heap.size rfl (.tmp 5) (.tmp 6) 36 3 (.int .i64 0) 8 rfl Try.underlying36 info3 rfl (by decide) (by omega) v432 y431 l0 _ _ _ (fun _ => True) (fun _ => False) rfl rfl ?aO ?aR (fun _ _ h => h) (fun _ h => h.elim) ?aF ?aB ?aS ?aL ?_; (case aR => repeat (first | exact (Kd.C_below HR0.out HB.out) | (with_reducible refine Kd.C_alloc ?_ _) | (with_reducible refine Kd.C_drewN ?_ _) | (with_reducible refine Kd.C_drew ?_))); (case aB => exact PB); (case aF => exact (fun _ _ => trivial)); (case aO => exact (PR HO433)); (case aS => exact (below_size PB)); (case aL => have := LMc2.out; omega); intro v435 w5 ho hb hg hat; rw [← Ny434.out] at ho; replace HB := ak hb; have HO436 := ak (ho); clear HO433; clear ho hb hg hat))
   go_ret
   exact ⟨_, RT, by (with_reducible repeat (first | apply Kd.R_alloc | apply Kd.R_drewN | apply Kd.R_drew)); exact HO436.out, PB⟩
  ·rw [if_neg c2] at H
   exact absurd H (by simp)

/-! ### impl_copyResource: function 75 -/
def impl_copyResource.f (a0_0 : Int) (l0_1 : List Int) (a0_2 : Int) (a0_3 : Int) (a0_4 : Int) : Option (Int × List Int × Int × Int × Int) := (slices_Clone_int_int.f l0_1).bind fun t439 => (some (a0_0, t439, a0_2, a0_3, a0_4))
set_option maxHeartbeats 8000000 in
set_option maxRecDepth 100000 in
theorem impl_copyResource.calls (a0_0 : Int) (A0_1 : Option Addr) (c0_1 : Nat) (l0_1 : List Int) (a0_2 : Int) (a0_3 : Int) (a0_4 : Int) (r1 : Int) (r2 : List Int) (r3 : Int) (r4 : Int) (r5 : Int) (w : World) (hr0_1 : Kd.C (Kd.int .i64) w A0_1 l0_1.length l0_1) (hc0_1 : l0_1.length ≤ c0_1) (h : impl_copyResource.f a0_0 l0_1 a0_2 a0_3 a0_4 = some (r1, r2, r3, r4, r5)) :
  Calls Try.prog 75 #[.agg #[.int .i64 a0_0, .slice A0_1 l0_1.length c0_1, .int .i64 a0_2, .int .i64 a0_3, .int .i64 a0_4]] w fun e w' => ∃ v1_ : Value, e = .returned (.agg #[.int .i64 r1, v1_, .int .i64 r3, .int .i64 r4, .int .i64 r5]) ∧ Kd.R (Kd.int .i64) 3 w' w.heap.size (fun _ => True) v1_ r2 ∧ Below w.heap.size w w' := by
 have hu38 := Try.underlying38
 have HR0_1 := Aside0.mk hr0_1
 have HC0_1 := Aside0.mk hc0_1
 clear hr0_1 hc0_1
 have HB := ak (Below.refl w.heap.size w)
 have H : ((slices_Clone_int_int.f l0_1).bind fun t439 => (some (a0_0, t439, a0_2, a0_3, a0_4))) = some (r1, r2, r3, r4, r5) := h
 clear h
 replace H := Option.bind_eq_some_iff.mp H
 obtain ⟨t439, A20, H⟩ := H
 replace H : (some (a0_0, t439, a0_2, a0_3, a0_4)) = some (r1, r2, r3, r4, r5) := H
 have A2 := Aside0.mk A20
 clear A20
 simp only [Option.some.injEq, Prod.mk.injEq] at H
 obtain ⟨rfl, rfl, rfl, rfl, rfl⟩ := H
 go_enter Try.func75, Try.ntmps75
 go_wp2_with (first | ((with_reducible refine gate_dst (N := 1) rfl ?_); refine bx_ (N := 1) #[.int .i64 a0_0, .slice A0_1 l0_1.length c0_1, .int .i64 a0_2, .int .i64 a0_3, .int .i64 a0_4] 38 ?_; intro gb437 hg w3 hbox hb; have BK437 := ak hbox; have GW437 := gy hg HB; have GE437 := gy hg HB; replace HB := bs HB hb; clear hb hbox hg) | ((with_reducible refine gate_dst (N := 2) rfl ?_); refine bx_ (N := 2) #[.int .i64 0, .slice none 0 0, .int .i64 0, .int .i64 0, .int .i64 0] 38 ?_; intro gb438 hg w4 hbox hb; have BK438 := ak hbox; have GW438 := gy hg HB; have GE438 := gy hg HB; replace HB := bs HB hb; have NB437_438 := gm hg BK437; have NB438_437 := gn hg BK437; replace BK437 := kf BK437 hb; clear hb hbox hg; have hnb5 := NB437_438.out; have hnc5 := NB438_437.out; obtain ⟨_, _, _, _, _, _, _, _, _, _⟩ := bc5 BK437) | ((with_reducible refine gate_callee (f := 131) rfl ?_); refine goesL_ (some 5) rfl rfl Try.func131 KR rfl #[.slice A0_1 l0_1.length c0_1] rfl AR ?_; (with_reducible refine (slices_Clone_int_int.calls _ _ l0_1 t439 _ ?side1 ?side2 A2.out).mono ?_); (case side1 => exact CR (Kd.C_below HR0_1.out HB.out)); (case side2 => exact HC0_1.out); rintro e w7 ⟨v440, rfl, ho0, hb⟩; refine ⟨_, rfl, ?_⟩; have HO441 := Rn0 ho0 HB; replace BK437 := kf BK437 hb; replace BK438 := kf BK438 hb; replace HB := bs HB hb; (try clear hb); (try clear hb2); (try clear hk); (try clear hi); (try clear ho0); obtain ⟨Ao8, co8, eo8⟩ := Kd.R_slice HO441.out; subst eo8; obtain ⟨hcz9_0, hcz9_1, hcz9_2, hcz9_3, hcz9_4, hfz9_0, hfz9_1, hfz9_2, hfz9_3, hfz9_4⟩ := bc5 BK437; obtain ⟨hcz10_0, hcz10_1, hcz10_2, hcz10_3, hcz10_4, hfz10_0, hfz10_1, hfz10_2, hfz10_3, hfz10_4⟩ := bc5 BK438))
 refine bodyPost_ret (results_cell_row rfl _ _ gb438 38 #[.int .i64 a0_0, .slice Ao8 t439.length co8, .int .i64 a0_2, .int .i64 a0_3, .int .i64 a0_4] (0, 0) _ rfl (PX BK438) Try.underlying38 rfl KR) rfl ?_
 exact ⟨_, RT, RX (Rt (Rt HO441.out BK437) BK438) (fun _ hk => trivial), PB⟩

/-! ### impl_AnswerAt: function 138 -/
def impl_AnswerAt.l0 : Nat → List (S169) → Int → Int → Int → Int → Int → Option (Int × List Int × Int × Int × Int)
  | 0, _, _, _, _, _, _ => none
  | k + 1, x0, x2, x7, x443000, x443001, x443002 => if x7 ≥ 0 then (if 0 ≤ x7 then (if x7 < (x0.length : Int) then (if (((rd_T169 x0 x7).f0.f0) == x443000 && (((rd_T169 x0 x7).f0.f1) == x443001 && (((rd_T169 x0 x7).f0.f2) == x443002))) = true then (if ((rd_T169 x0 x7).f1) ≤ x2 then ((impl_copyResource.f ((rd_T169 x0 x7).f2.f0) ((rd_T169 x0 x7).f2.f1) ((rd_T169 x0 x7).f2.f2.f0) ((rd_T169 x0 x7).f2.f2.f1) ((rd_T169 x0 x7).f2.f2.f2)).bind fun bt447 => (some (bt447.1, bt447.2.1, bt447.2.2.1, bt447.2.2.2.1, bt447.2.2.2.2))) else (impl_AnswerAt.l0 k x0 x2 (wrap64 (x7 - 1)) x443000 x443001 x443002)) else (impl_AnswerAt.l0 k x0 x2 (wrap64 (x7 - 1)) x443000 x443001 x443002)) else (none)) else (none)) else (some (4, ([] : List Int), 0, 0, 0))
def impl_AnswerAt.f (k : Nat) (l0 : List (S169)) (a1_0 : Int) (a1_1 : Int) (a1_2 : Int) (a2 : Int) : Option (Int × List Int × Int × Int × Int) := impl_AnswerAt.l0 k l0 a2 (wrap64 ((l0.length : Int) - 1)) a1_0 a1_1 a1_2
set_option maxHeartbeats 8000000 in
set_option maxRecDepth 100000 in
theorem impl_AnswerAt.calls (k : Nat) (A0 : Option Addr) (c0 : Nat) (l0 : List (S169)) (a1_0 : Int) (a1_1 : Int) (a1_2 : Int) (a2 : Int) (r1 : Int) (r2 : List Int) (r3 : Int) (r4 : Int) (r5 : Int) (w : World) (hr0 : Kd.C k169 w A0 l0.length l0) (hc0 : l0.length ≤ c0) (h : impl_AnswerAt.f k l0 a1_0 a1_1 a1_2 a2 = some (r1, r2, r3, r4, r5)) :
  Calls Try.prog 138 #[.slice A0 l0.length c0, .agg #[.int .i64 a1_0, .int .i64 a1_1, .int .i64 a1_2], .int .i64 a2] w fun e w' => ∃ v1_ : Value, e = .returned (.agg #[.int .i64 r1, v1_, .int .i64 r3, .int .i64 r4, .int .i64 r5]) ∧ Kd.R (Kd.int .i64) 3 w' w.heap.size (fun _ => True) v1_ r2 ∧ Below w.heap.size w w' := by
 have hu26 := Try.underlying26
 have hu38 := Try.underlying38
 have HR0 := Aside0.mk hr0
 have HC0 := Aside0.mk hc0
 clear hr0 hc0
 have HB := ak (Below.refl w.heap.size w)
 have H : (impl_AnswerAt.l0 k l0 a2 (wrap64 ((l0.length : Int) - 1)) a1_0 a1_1 a1_2) = some (r1, r2, r3, r4, r5) := h
 clear h
 have H' := Aside0.mk H
 clear H
 go_enter Try.func138, Try.ntmps138
 go_wp2_with (first | ((with_reducible refine gate_dst (N := 4) rfl ?_); refine bx_ (N := 4) #[.int .i64 a1_0, .int .i64 a1_1, .int .i64 a1_2] 26 ?_; intro gb442 hg w4 hbox hb; have BK442 := ak hbox; have GW442 := gy hg HB; have GE442 := gy hg HB; replace HB := bs HB hb; clear hb hbox hg) | ((with_reducible refine gate_dst (N := 6) rfl ?_); refine bx_ (N := 6) #[.int .i64 0, .slice none 0 0, .int .i64 0, .int .i64 0, .int .i64 0] 38 ?_; intro gb443 hg w5 hbox hb; have BK443 := ak hbox; have GW443 := gy hg HB; have GE443 := gy hg HB; replace HB := bs HB hb; have NB442_443 := gm hg BK442; have NB443_442 := gn hg BK442; replace BK442 := kf BK442 hb; clear hb hbox hg))
 repeat (go_quiet (first | ((with_reducible refine gate_dst (N := 4) rfl ?_); refine bx_ (N := 4) #[.int .i64 a1_0, .int .i64 a1_1, .int .i64 a1_2] 26 ?_; intro gb442 hg w4 hbox hb; have BK442 := ak hbox; have GW442 := gy hg HB; have GE442 := gy hg HB; replace HB := bs HB hb; clear hb hbox hg) | ((with_reducible refine gate_dst (N := 6) rfl ?_); refine bx_ (N := 6) #[.int .i64 0, .slice none 0 0, .int .i64 0, .int .i64 0, .int .i64 0] 38 ?_; intro gb443 hg w5 hbox hb; have BK443 := ak hbox; have GW443 := gy hg HB; have GE443 := gy hg HB; replace HB := bs HB hb; have NB442_443 := gm hg BK442; have NB443_442 := gn hg BK442; replace BK442 := kf BK442 hb; clear hb hbox hg)); try go_wp2_with (first | ((with_reducible refine gate_dst (N := 4) rfl ?_); refine bx_ (N := 4) #[.int .i64 a1_0, .int .i64 a1_1, .int .i64 a1_2] 26 ?_; intro gb442 hg w4 hbox hb; have BK442 := ak hbox; have GW442 := gy hg HB; have GE442 := gy hg HB; replace HB := bs HB hb; clear hb hbox hg) | ((with_reducible refine gate_dst (N := 6) rfl ?_); refine bx_ (N := 6) #[.int .i64 0, .slice none 0 0, .int .i64 0, .int .i64 0, .int .i64 0] 38 ?_; intro gb443 hg w5 hbox hb; have BK443 := ak hbox; have GW443 := gy hg HB; have GE443 := gy hg HB; replace HB := bs HB hb; have NB442_443 := gm hg BK442; have NB443_442 := gn hg BK442; replace BK442 := kf BK442 hb; clear hb hbox hg)))
 go_loopg [7] k (fun kq v7 w' => ∃ (x7_1 : Int) (x444000_1 : Int) (x444002_1 : Int) (x444003_1 : Int) (x444004_1 : Int), v7 = .int .i64 x7_1 ∧ Aside0 (impl_AnswerAt.l0 kq l0 a2 x7_1 a1_0 a1_1 a1_2 = some (r1, r2, r3, r4, r5)) ∧ Aside0 (kq ≤ k) ∧ Aside0 (w'.heap[gb442]? = some (.cells #[.int .i64 a1_0, .int .i64 a1_1, .int .i64 a1_2] 26 (0, 0))) ∧ Aside0 (w'.heap[gb443]? = some (.cells #[.int .i64 x444000_1, (.slice none 0 0), .int .i64 x444002_1, .int .i64 x444003_1, .int .i64 x444004_1] 38 (0, 0))) ∧ Aside0 (Below w.heap.size w w'))
 case atStart => exact ⟨(wrap64 ((l0.length : Int) - 1)), (0), (0), (0), (0), (by first | rfl | (simp; done) | (simp [*]; done)), H', ⟨Nat.le_refl _⟩, ⟨PK BK442⟩, ⟨PK BK443⟩, ⟨PB⟩⟩
 case round =>
  clear H'
  (try clear c1); (try clear p2)
  obtain ⟨x7_1, x444000_1, x444002_1, x444003_1, x444004_1, rfl, HA, HK1, BK442, BK443, HB⟩ := hrel
  cases gk with
  | zero => exact absurd HA.out (by simp [impl_AnswerAt.l0])
  | succ k1 =>
   have H := HA.out
   clear HA
   simp only [impl_AnswerAt.l0] at H
   by_cases c6 : x7_1 ≥ 0
   ·rw [if_pos c6] at H
    have c6b0 : decide (0 ≤ x7_1) = true := decide_eq_true c6
    clear c6
    by_cases c7 : 0 ≤ x7_1
    ·rw [if_pos c7] at H
     have c7b0 : decide (0 ≤ x7_1) = true := decide_eq_true c7
     clear c7
     by_cases c8 : x7_1 < (l0.length : Int)
     ·rw [if_pos c8] at H
      have c8b0 : decide (x7_1 < (l0.length : Int)) = true := decide_eq_true c8
      clear c8
      by_cases c9 : (((rd_T169 l0 x7_1).f0.f0) == a1_0 && (((rd_T169 l0 x7_1).f0.f1) == a1_1 && (((rd_T169 l0 x7_1).f0.f2) == a1_2))) = true
      ·rw [if_pos c9] at H
       have c9b0 : (((rd_T169 l0 x7_1).f0.f0) == a1_0 && (((rd_T169 l0 x7_1).f0.f1) == a1_1 && (((rd_T169 l0 x7_1).f0.f2) == a1_2))) = true := c9
       (try (have c9b1 : decide (((rd_T169 l0 x7_1).f0.f0) = a1_0 && (((rd_T169 l0 x7_1).f0.f1) == a1_1 && (((rd_T169 l0 x7_1).f0.f2) == a1_2))) = true := by simpa using c9))
       (try (have c9b2 : (((rd_T169 l0 x7_1).f0.f0) == a1_0 && (((rd_T169 l0 x7_1).f0.f1) == a1_1 && (((rd_T169 l0 x7_1).f0.f2) == a1_2))) = true := by simpa using c9))
       clear c9
       by_cases c10 : ((rd_T169 l0 x7_1).f1) ≤ a2
       ·rw [if_pos c10] at H
        have c10b0 : decide (((rd_T169 l0 x7_1).f1) ≤ a2) = true := decide_eq_true c10
        clear c10
        replace H := Option.bind_eq_some_iff.mp H
        obtain ⟨⟨t447, t448, t451, t452, t453⟩, A110, H⟩ := H
        replace H : (some (t447, t448, t451, t452, t453)) = some (r1, r2, r3, r4, r5) := H
        have A11 := Aside0.mk A110
        clear A110
        simp only [Option.some.injEq, Prod.mk.injEq] at H
        obtain ⟨rfl, rfl, rfl, rfl, rfl⟩ := H
        have p444 : 0 ≤ (x7_1 : Int) := of_decide_eq_true (by first | (with_reducible assumption) | assumption)
        have q444 : x7_1 < (l0.length : Int) := of_decide_eq_true (by first | (with_reducible assumption) | assumption)
        obtain ⟨ad444, A444_5, c444_5, e444, hx444_0, hx444_1, hx444_2, hx444_3, hx444_4, hx444_5, hx444_6, hx444_7, hx444_8, hl444_5, hi444_5⟩ := at_T169 HR0.out x7_1 p444 q444
        cases e444
        replace hx444_0 := hx_ HB hx444_0
        replace hx444_1 := hx_ HB hx444_1
        replace hx444_2 := hx_ HB hx444_2
        replace hx444_3 := hx_ HB hx444_3
        replace hx444_4 := hx_ HB hx444_4
        replace hx444_5 := hx_ HB hx444_5
        replace hx444_6 := hx_ HB hx444_6
        replace hx444_7 := hx_ HB hx444_7
        replace hx444_8 := hx_ HB hx444_8
        have HR444_5 := Aside0.mk hi444_5
        have HC444_5 := Aside0.mk hl444_5
        clear hi444_5 hl444_5
        replace p444 := eq_true p444
        replace q444 := eq_true q444
        have hnb12 := NB442_443.out
        have hnc12 := NB443_442.out
        obtain ⟨hcz13_0, hcz13_1, hcz13_2, hfz13_0, hfz13_1, hfz13_2⟩ := bc3 BK442
        have p445 : 0 ≤ (x7_1 : Int) := of_decide_eq_true (by first | (with_reducible assumption) | assumption)
        have q445 : x7_1 < (l0.length : Int) := of_decide_eq_true (by first | (with_reducible assumption) | assumption)
        obtain ⟨ad445, A445_5, c445_5, e445, hx445_0, hx445_1, hx445_2, hx445_3, hx445_4, hx445_5, hx445_6, hx445_7, hx445_8, hl445_5, hi445_5⟩ := at_T169 HR0.out x7_1 p445 q445
        obtain rfl : ad444 = ad445 := (by injection e445)
        replace hx445_0 := hx_ HB hx445_0
        replace hx445_1 := hx_ HB hx445_1
        replace hx445_2 := hx_ HB hx445_2
        replace hx445_3 := hx_ HB hx445_3
        replace hx445_4 := hx_ HB hx445_4
        replace hx445_5 := hx_ HB hx445_5
        replace hx445_6 := hx_ HB hx445_6
        replace hx445_7 := hx_ HB hx445_7
        replace hx445_8 := hx_ HB hx445_8
        have HR445_5 := Aside0.mk hi445_5
        have HC445_5 := Aside0.mk hl445_5
        clear hi445_5 hl445_5
        replace p445 := eq_true p445
        replace q445 := eq_true q445
        have ea_ := Option.some.inj (hx444_5.symm.trans hx445_5)
        injection ea_ with ea_ en_ ec_
        subst ea_
        subst ec_
        clear en_
        have p446 : 0 ≤ (x7_1 : Int) := of_decide_eq_true (by first | (with_reducible assumption) | assumption)
        have q446 : x7_1 < (l0.length : Int) := of_decide_eq_true (by first | (with_reducible assumption) | assumption)
        obtain ⟨ad446, A446_5, c446_5, e446, hx446_0, hx446_1, hx446_2, hx446_3, hx446_4, hx446_5, hx446_6, hx446_7, hx446_8, hl446_5, hi446_5⟩ := at_T169 HR0.out x7_1 p446 q446
        obtain rfl : ad444 = ad446 := (by injection e446)
        replace hx446_0 := hx_ HB hx446_0
        replace hx446_1 := hx_ HB hx446_1
        replace hx446_2 := hx_ HB hx446_2
        replace hx446_3 := hx_ HB hx446_3
        replace hx446_4 := hx_ HB hx446_4
        replace hx446_5 := hx_ HB hx446_5
        replace hx446_6 := hx_ HB hx446_6
        replace hx446_7 := hx_ HB hx446_7
        replace hx446_8 := hx_ HB hx446_8
        have HR446_5 := Aside0.mk hi446_5
        have HC446_5 := Aside0.mk hl446_5
        clear hi446_5 hl446_5
        replace p446 := eq_true p446
        replace q446 := eq_true q446
        have ea_ := Option.some.inj (hx444_5.symm.trans hx446_5)
        injection ea_ with ea_ en_ ec_
        subst ea_
        subst ec_
        clear en_
        go_wp2_with (first | (go_at_call 75; (with_reducible refine (impl_copyResource.calls ((rd_T169 l0 x7_1).f2.f0) _ _ ((rd_T169 l0 x7_1).f2.f1) ((rd_T169 l0 x7_1).f2.f2.f0) ((rd_T169 l0 x7_1).f2.f2.f1) ((rd_T169 l0 x7_1).f2.f2.f2) t447 t448 t451 t452 t453 _ ?side1 ?side2 A11.out).mono ?_); (case side1 => exact CR (Kd.C_below HR446_5.out HB.out)); (case side2 => exact HC446_5.out); rintro e w14 ⟨v449, rfl, ho0, hb⟩; have HO450 := Rn0 ho0 HB; replace BK442 := kf BK442 hb; replace BK443 := kf BK443 hb; replace HB := bs HB hb; (try clear hb); (try clear hb2); (try clear hk); (try clear hi); (try clear ho0); obtain ⟨hcz15_0, hcz15_1, hcz15_2, hcz15_3, hcz15_4, hfz15_0, hfz15_1, hfz15_2, hfz15_3, hfz15_4⟩ := bc5 BK443; obtain ⟨Ao16, co16, eo16⟩ := Kd.R_slice HO450.out; subst eo16))
        repeat (go_quiet (first | (go_at_call 75; (with_reducible refine (impl_copyResource.calls ((rd_T169 l0 x7_1).f2.f0) _ _ ((rd_T169 l0 x7_1).f2.f1) ((rd_T169 l0 x7_1).f2.f2.f0) ((rd_T169 l0 x7_1).f2.f2.f1) ((rd_T169 l0 x7_1).f2.f2.f2) t447 t448 t451 t452 t453 _ ?side1 ?side2 A11.out).mono ?_); (case side1 => exact CR (Kd.C_below HR446_5.out HB.out)); (case side2 => exact HC446_5.out); rintro e w14 ⟨v449, rfl, ho0, hb⟩; have HO450 := Rn0 ho0 HB; replace BK442 := kf BK442 hb; replace BK443 := kf BK443 hb; replace HB := bs HB hb; (try clear hb); (try clear hb2); (try clear hk); (try clear hi); (try clear ho0); obtain ⟨hcz15_0, hcz15_1, hcz15_2, hcz15_3, hcz15_4, hfz15_0, hfz15_1, hfz15_2, hfz15_3, hfz15_4⟩ := bc5 BK443; obtain ⟨Ao16, co16, eo16⟩ := Kd.R_slice HO450.out; subst eo16)); try go_wp2_with (first | (go_at_call 75; (with_reducible refine (impl_copyResource.calls ((rd_T169 l0 x7_1).f2.f0) _ _ ((rd_T169 l0 x7_1).f2.f1) ((rd_T169 l0 x7_1).f2.f2.f0) ((rd_T169 l0 x7_1).f2.f2.f1) ((rd_T169 l0 x7_1).f2.f2.f2) t447 t448 t451 t452 t453 _ ?side1 ?side2 A11.out).mono ?_); (case side1 => exact CR (Kd.C_below HR446_5.out HB.out)); (case side2 => exact HC446_5.out); rintro e w14 ⟨v449, rfl, ho0, hb⟩; have HO450 := Rn0 ho0 HB; replace BK442 := kf BK442 hb; replace BK443 := kf BK443 hb; replace HB := bs HB hb; (try clear hb); (try clear hb2); (try clear hk); (try clear hi); (try clear ho0); obtain ⟨hcz15_0, hcz15_1, hcz15_2, hcz15_3, hcz15_4, hfz15_0, hfz15_1, hfz15_2, hfz15_3, hfz15_4⟩ := bc5 BK443; obtain ⟨Ao16, co16, eo16⟩ := Kd.R_slice HO450.out; subst eo16)))
        refine bodyPost_ret (results_cell_row rfl _ _ gb443 38 #[.int .i64 t447, .slice Ao16 t448.length co16, .int .i64 t451, .int .i64 t452, .int .i64 t453] (0, 0) _ rfl (PX BK443) Try.underlying38 rfl KR) rfl ?_
        exact ⟨_, RT, RX (Rt HO450.out BK443) (fun _ hk => trivial), PB⟩
       ·rw [if_neg c10] at H
        have c10b0 : decide (((rd_T169 l0 x7_1).f1) ≤ a2) = false := decide_eq_false c10
        clear c10
        have H' := Aside0.mk H
        clear H
        have p444 : 0 ≤ (x7_1 : Int) := of_decide_eq_true (by first | (with_reducible assumption) | assumption)
        have q444 : x7_1 < (l0.length : Int) := of_decide_eq_true (by first | (with_reducible assumption) | assumption)
        obtain ⟨ad444, A444_5, c444_5, e444, hx444_0, hx444_1, hx444_2, hx444_3, hx444_4, hx444_5, hx444_6, hx444_7, hx444_8, hl444_5, hi444_5⟩ := at_T169 HR0.out x7_1 p444 q444
        cases e444
        replace hx444_0 := hx_ HB hx444_0
        replace hx444_1 := hx_ HB hx444_1
        replace hx444_2 := hx_ HB hx444_2
        replace hx444_3 := hx_ HB hx444_3
        replace hx444_4 := hx_ HB hx444_4
        replace hx444_5 := hx_ HB hx444_5
        replace hx444_6 := hx_ HB hx444_6
        replace hx444_7 := hx_ HB hx444_7
        replace hx444_8 := hx_ HB hx444_8
        have HR444_5 := Aside0.mk hi444_5
        have HC444_5 := Aside0.mk hl444_5
        clear hi444_5 hl444_5
        replace p444 := eq_true p444
        replace q444 := eq_true q444
        have hnb17 := NB442_443.out
        have hnc17 := NB443_442.out
        obtain ⟨_, _, _, _, _, _⟩ := bc3 BK442
        have p445 : 0 ≤ (x7_1 : Int) := of_decide_eq_true (by first | (with_reducible assumption) | assumption)
        have q445 : x7_1 < (l0.length : Int) := of_decide_eq_true (by first | (with_reducible assumption) | assumption)
        obtain ⟨ad445, A445_5, c445_5, e445, hx445_0, hx445_1, hx445_2, hx445_3, hx445_4, hx445_5, hx445_6, hx445_7, hx445_8, hl445_5, hi445_5⟩ := at_T169 HR0.out x7_1 p445 q445
        obtain rfl : ad444 = ad445 := (by injection e445)
        replace hx445_0 := hx_ HB hx445_0
        replace hx445_1 := hx_ HB hx445_1
        replace hx445_2 := hx_ HB hx445_2
        replace hx445_3 := hx_ HB hx445_3
        replace hx445_4 := hx_ HB hx445_4
        replace hx445_5 := hx_ HB hx445_5
        replace hx445_6 := hx_ HB hx445_6
        replace hx445_7 := hx_ HB hx445_7
        replace hx445_8 := hx_ HB hx445_8
        have HR445_5 := Aside0.mk hi445_5
        have HC445_5 := Aside0.mk hl445_5
        clear hi445_5 hl445_5
        replace p445 := eq_true p445
        replace q445 := eq_true q445
        have ea_ := Option.some.inj (hx444_5.symm.trans hx445_5)
        injection ea_ with ea_ en_ ec_
        subst ea_
        subst ec_
        clear en_
        go_wp2
        repeat (go_quiet (fail); try go_wp2)
        go_roundg k1
        case measure => have := HK1.out; omega
        case rel => exact ⟨(wrap64 (x7_1 - 1)), (x444000_1), (x444002_1), (x444003_1), (x444004_1), (by first | rfl | (simp; done) | (simp [*]; done)), H', ⟨by have := HK1.out; omega⟩, ⟨PK BK442⟩, ⟨PK BK443⟩, ⟨PB⟩⟩
      ·rw [if_neg c9] at H
       have c9b0 : (((rd_T169 l0 x7_1).f0.f0) == a1_0 && (((rd_T169 l0 x7_1).f0.f1) == a1_1 && (((rd_T169 l0 x7_1).f0.f2) == a1_2))) = false := by simpa using c9
       (try (have c9b1 : decide (((rd_T169 l0 x7_1).f0.f0) = a1_0 && (((rd_T169 l0 x7_1).f0.f1) == a1_1 && (((rd_T169 l0 x7_1).f0.f2) == a1_2))) = false := by simpa using c9))
       (try (have c9b2 : (((rd_T169 l0 x7_1).f0.f0) == a1_0 && (((rd_T169 l0 x7_1).f0.f1) == a1_1 && (((rd_T169 l0 x7_1).f0.f2) == a1_2))) = false := by simpa using c9))
       (try (have c9b3 : ¬ (((rd_T169 l0 x7_1).f0.f0) = a1_0 && (((rd_T169 l0 x7_1).f0.f1) == a1_1 && (((rd_T169 l0 x7_1).f0.f2) == a1_2))) := by simpa using c9))
       clear c9
       have H' := Aside0.mk H
       clear H
       have p444 : 0 ≤ (x7_1 : Int) := of_decide_eq_true (by first | (with_reducible assumption) | assumption)
       have q444 : x7_1 < (l0.length : Int) := of_decide_eq_true (by first | (with_reducible assumption) | assumption)
       obtain ⟨ad444, A444_5, c444_5, e444, hx444_0, hx444_1, hx444_2, hx444_3, hx444_4, hx444_5, hx444_6, hx444_7, hx444_8, hl444_5, hi444_5⟩ := at_T169 HR0.out x7_1 p444 q444
       cases e444
       replace hx444_0 := hx_ HB hx444_0
       replace hx444_1 := hx_ HB hx444_1
       replace hx444_2 := hx_ HB hx444_2
       replace hx444_3 := hx_ HB hx444_3
       replace hx444_4 := hx_ HB hx444_4
       replace hx444_5 := hx_ HB hx444_5
       replace hx444_6 := hx_ HB hx444_6
       replace hx444_7 := hx_ HB hx444_7
       replace hx444_8 := hx_ HB hx444_8
       have HR444_5 := Aside0.mk hi444_5
       have HC444_5 := Aside0.mk hl444_5
       clear hi444_5 hl444_5
       replace p444 := eq_true p444
       replace q444 := eq_true q444
       have hnb19 := NB442_443.out
       have hnc19 := NB443_442.out
       obtain ⟨_, _, _, _, _, _⟩ := bc3 BK442
       go_wp2
       repeat (go_quiet (fail); try go_wp2)
       go_roundg k1
       case measure => have := HK1.out; omega
       case rel => exact ⟨(wrap64 (x7_1 - 1)), (x444000_1), (x444002_1), (x444003_1), (x444004_1), (by first | rfl | (simp; done) | (simp [*]; done)), H', ⟨by have := HK1.out; omega⟩, ⟨PK BK442⟩, ⟨PK BK443⟩, ⟨PB⟩⟩
     ·rw [if_neg c8] at H
      exact absurd H (by simp)
    ·rw [if_neg c7] at H
     exact absurd H (by simp)
   ·rw [if_neg c6] at H
    have c6b0 : decide (0 ≤ x7_1) = false := decide_eq_false c6
    clear c6
    simp only [Option.some.injEq, Prod.mk.injEq] at H
    obtain ⟨rfl, rfl, rfl, rfl, rfl⟩ := H
    have hnb21 := NB443_442.out
    have hnc21 := NB442_443.out
    obtain ⟨_, _, _, _, _, _, _, _, _, _⟩ := bc5 BK443
    go_wp2
    repeat (go_quiet (fail); try go_wp2)
    refine bodyPost_ret (results_cell_row rfl _ _ gb443 38 #[.int .i64 4, .slice none 0 0, .int .i64 0, .int .i64 0, .int .i64 0] (0, 0) _ rfl (PX BK443) Try.underlying38 rfl KR) rfl ?_
    exact ⟨_, RT, by first | exact Kd.R_nil _ _ _ _ _ | exact Kd.N_nil _ _ _ _ _ | exact Kd.V_nil _ _ _ _ _ | exact Kd.Q_nil _ _ _ _ _ | exact Kd.S_nil _ _ _ _ _, PB⟩

/-! ### impl_Address_160: function 160 -/
def impl_Address_160.l0 : Nat → List (S26) → Int → Int → Int → Int → Int → Option (Int)
  | 0, _, _, _, _, _, _ => none
  | k + 1, x0, x7, x8, x455000, x455001, x455002 => if x8 < x7 then (if 0 ≤ x8 then (if x8 < (x0.length : Int) then (if (x455000 == ((rd_T26 x0 x8).f0) && (x455001 == ((rd_T26 x0 x8).f1) && (x455002 == ((rd_T26 x0 x8).f2)))) = true then (some x8) else (impl_Address_160.l0 k x0 x7 (wrap64 (x8 + 1)) x455000 x455001 x455002)) else (none)) else (none)) else (some (-1))
def impl_Address_160.f (k : Nat) (l0 : List (S26)) (a1_0 : Int) (a1_1 : Int) (a1_2 : Int) : Option (Int) := impl_Address_160.l0 k l0 (l0.length : Int) 0 a1_0 a1_1 a1_2
set_option maxHeartbeats 8000000 in
set_option maxRecDepth 100000 in
theorem impl_Address_160.calls (k : Nat) (A0 : Option Addr) (c0 : Nat) (l0 : List (S26)) (a1_0 : Int) (a1_1 : Int) (a1_2 : Int) (r : Int) (w : World) (hr0 : Kd.C k26 w A0 l0.length l0) (hc0 : l0.length ≤ c0) (h : impl_Address_160.f k l0 a1_0 a1_1 a1_2 = some r) :
  Calls Try.prog 160 #[.slice A0 l0.length c0, .agg #[.int .i64 a1_0, .int .i64 a1_1, .int .i64 a1_2]] w fun e w' => e = .returned (.int .i64 r) ∧ Below w.heap.size w w' := by
 have hu26 := Try.underlying26
 have HR0 := Aside0.mk hr0
 have HC0 := Aside0.mk hc0
 clear hr0 hc0
 have HB := ak (Below.refl w.heap.size w)
 have H : (impl_Address_160.l0 k l0 (l0.length : Int) 0 a1_0 a1_1 a1_2) = some r := h
 clear h
 have H' := Aside0.mk H
 clear H
 go_enter Try.func160, Try.ntmps160
 go_wp2_with (first | ((with_reducible refine gate_dst (N := 3) rfl ?_); refine bx_ (N := 3) #[.int .i64 a1_0, .int .i64 a1_1, .int .i64 a1_2] 26 ?_; intro gb454 hg w3 hbox hb; have BK454 := ak hbox; have GW454 := gy hg HB; have GE454 := gy hg HB; replace HB := bs HB hb; clear hb hbox hg))
 repeat (go_quiet (first | ((with_reducible refine gate_dst (N := 3) rfl ?_); refine bx_ (N := 3) #[.int .i64 a1_0, .int .i64 a1_1, .int .i64 a1_2] 26 ?_; intro gb454 hg w3 hbox hb; have BK454 := ak hbox; have GW454 := gy hg HB; have GE454 := gy hg HB; replace HB := bs HB hb; clear hb hbox hg)); try go_wp2_with (first | ((with_reducible refine gate_dst (N := 3) rfl ?_); refine bx_ (N := 3) #[.int .i64 a1_0, .int .i64 a1_1, .int .i64 a1_2] 26 ?_; intro gb454 hg w3 hbox hb; have BK454 := ak hbox; have GW454 := gy hg HB; have GE454 := gy hg HB; replace HB := bs HB hb; clear hb hbox hg)))
 go_loopg [8] k (fun kq v8 w' => ∃ (x8_1 : Int), v8 = .int .i64 x8_1 ∧ Aside0 (impl_Address_160.l0 kq l0 (l0.length : Int) x8_1 a1_0 a1_1 a1_2 = some r) ∧ Aside0 (kq ≤ k) ∧ Aside0 (w'.heap[gb454]? = some (.cells #[.int .i64 a1_0, .int .i64 a1_1, .int .i64 a1_2] 26 (0, 0))) ∧ Aside0 (Below w.heap.size w w'))
 case atStart => exact ⟨(0), (by first | rfl | (simp; done) | (simp [*]; done)), H', ⟨Nat.le_refl _⟩, ⟨PK BK454⟩, ⟨PB⟩⟩
 case round =>
  clear H'
  (try clear c1); (try clear p2)
  obtain ⟨x8_1, rfl, HA, HK1, BK454, HB⟩ := hrel
  cases gk with
  | zero => exact absurd HA.out (by simp [impl_Address_160.l0])
  | succ k1 =>
   have H := HA.out
   clear HA
   simp only [impl_Address_160.l0] at H
   by_cases c4 : x8_1 < (l0.length : Int)
   ·rw [if_pos c4] at H
    have c4b0 : decide (x8_1 < (l0.length : Int)) = true := decide_eq_true c4
    clear c4
    by_cases c5 : 0 ≤ x8_1
    ·rw [if_pos c5] at H
     have c5b0 : decide (0 ≤ x8_1) = true := decide_eq_true c5
     clear c5
     by_cases c6 : x8_1 < (l0.length : Int)
     ·rw [if_pos c6] at H
      have c6b0 : decide (x8_1 < (l0.length : Int)) = true := decide_eq_true c6
      clear c6
      by_cases c7 : (a1_0 == ((rd_T26 l0 x8_1).f0) && (a1_1 == ((rd_T26 l0 x8_1).f1) && (a1_2 == ((rd_T26 l0 x8_1).f2)))) = true
      ·rw [if_pos c7] at H
       have c7b0 : (a1_0 == ((rd_T26 l0 x8_1).f0) && (a1_1 == ((rd_T26 l0 x8_1).f1) && (a1_2 == ((rd_T26 l0 x8_1).f2)))) = true := c7
       (try (have c7b1 : decide (a1_0 = ((rd_T26 l0 x8_1).f0) && (a1_1 == ((rd_T26 l0 x8_1).f1) && (a1_2 == ((rd_T26 l0 x8_1).f2)))) = true := by simpa using c7))
       (try (have c7b2 : (a1_0 == ((rd_T26 l0 x8_1).f0) && (a1_1 == ((rd_T26 l0 x8_1).f1) && (a1_2 == ((rd_T26 l0 x8_1).f2)))) = true := by simpa using c7))
       clear c7
       obtain rfl := Option.some.inj H
       obtain ⟨_, _, _, _, _, _⟩ := bc3 BK454
       have p455 : 0 ≤ (x8_1 : Int) := of_decide_eq_true (by first | (with_reducible assumption) | assumption)
       have q455 : x8_1 < (l0.length : Int) := of_decide_eq_true (by first | (with_reducible assumption) | assumption)
       obtain ⟨ad455, e455, hx455_0, hx455_1, hx455_2⟩ := at_T26 HR0.out x8_1 p455 q455
       cases e455
       replace hx455_0 := hx_ HB hx455_0
       replace hx455_1 := hx_ HB hx455_1
       replace hx455_2 := hx_ HB hx455_2
       replace p455 := eq_true p455
       replace q455 := eq_true q455
       go_wp2
       repeat (go_quiet (fail); try go_wp2)
       go_ret
       exact ⟨RT, PB⟩
      ·rw [if_neg c7] at H
       have c7b0 : (a1_0 == ((rd_T26 l0 x8_1).f0) && (a1_1 == ((rd_T26 l0 x8_1).f1) && (a1_2 == ((rd_T26 l0 x8_1).f2)))) = false := by simpa using c7
       (try (have c7b1 : decide (a1_0 = ((rd_T26 l0 x8_1).f0) && (a1_1 == ((rd_T26 l0 x8_1).f1) && (a1_2 == ((rd_T26 l0 x8_1).f2)))) = false := by simpa using c7))
       (try (have c7b2 : (a1_0 == ((rd_T26 l0 x8_1).f0) && (a1_1 == ((rd_T26 l0 x8_1).f1) && (a1_2 == ((rd_T26 l0 x8_1).f2)))) = false := by simpa using c7))
       (try (have c7b3 : ¬ (a1_0 = ((rd_T26 l0 x8_1).f0) && (a1_1 == ((rd_T26 l0 x8_1).f1) && (a1_2 == ((rd_T26 l0 x8_1).f2)))) := by simpa using c7))
       clear c7
       have H' := Aside0.mk H
       clear H
       obtain ⟨hcz9_0, hcz9_1, hcz9_2, hfz9_0, hfz9_1, hfz9_2⟩ := bc3 BK454
       have p455 : 0 ≤ (x8_1 : Int) := of_decide_eq_true (by first | (with_reducible assumption) | assumption)
       have q455 : x8_1 < (l0.length : Int) := of_decide_eq_true (by first | (with_reducible assumption) | assumption)
       obtain ⟨ad455, e455, hx455_0, hx455_1, hx455_2⟩ := at_T26 HR0.out x8_1 p455 q455
       cases e455
       replace hx455_0 := hx_ HB hx455_0
       replace hx455_1 := hx_ HB hx455_1
       replace hx455_2 := hx_ HB hx455_2
       replace p455 := eq_true p455
       replace q455 := eq_true q455
       go_wp2
       repeat (go_quiet (fail); try go_wp2)
       go_roundg k1
       case measure => have := HK1.out; omega
       case rel => exact ⟨(wrap64 (x8_1 + 1)), (by first | rfl | (simp; done) | (simp [*]; done)), H', ⟨by have := HK1.out; omega⟩, ⟨PK BK454⟩, ⟨PB⟩⟩
     ·rw [if_neg c6] at H
      exact absurd H (by simp)
    ·rw [if_neg c5] at H
     exact absurd H (by simp)
   ·rw [if_neg c4] at H
    have c4b0 : decide (x8_1 < (l0.length : Int)) = false := decide_eq_false c4
    clear c4
    obtain rfl := Option.some.inj H
    go_wp2
    repeat (go_quiet (fail); try go_wp2)
    go_ret
    exact ⟨RT, PB⟩

/-! ### impl_Address_139: function 139 -/
def impl_Address_139.f (k : Nat) (l0 : List (S26)) (a1_0 : Int) (a1_1 : Int) (a1_2 : Int) : Option (Bool) := (impl_Address_160.f k l0 a1_0 a1_1 a1_2).bind fun t457 => (some (decide (t457 ≥ 0)))
set_option maxHeartbeats 8000000 in
set_option maxRecDepth 100000 in
theorem impl_Address_139.calls (k : Nat) (A0 : Option Addr) (c0 : Nat) (l0 : List (S26)) (a1_0 : Int) (a1_1 : Int) (a1_2 : Int) (r : Bool) (w : World) (hr0 : Kd.C k26 w A0 l0.length l0) (hc0 : l0.length ≤ c0) (h : impl_Address_139.f k l0 a1_0 a1_1 a1_2 = some r) :
  Calls Try.prog 139 #[.slice A0 l0.length c0, .agg #[.int .i64 a1_0, .int .i64 a1_1, .int .i64 a1_2]] w fun e w' => e = .returned (.bool r) ∧ Below w.heap.size w w' := by
 have hu26 := Try.underlying26
 have HR0 := Aside0.mk hr0
 have HC0 := Aside0.mk hc0
 clear hr0 hc0
 have HB := ak (Below.refl w.heap.size w)
 have H : ((impl_Address_160.f k l0 a1_0 a1_1 a1_2).bind fun t457 => (some (decide (t457 ≥ 0)))) = some r := h
 clear h
 replace H := Option.bind_eq_some_iff.mp H
 obtain ⟨t457, A30, H⟩ := H
 replace H : (some (decide (t457 ≥ 0))) = some r := H
 have A3 := Aside0.mk A30
 clear A30
 obtain rfl := Option.some.inj H
 go_enter Try.func139, Try.ntmps139
 go_wp2_with (first | ((with_reducible refine gate_dst (N := 3) rfl ?_); refine bx_ (N := 3) #[.int .i64 a1_0, .int .i64 a1_1, .int .i64 a1_2] 26 ?_; intro gb456 hg w4 hbox hb; have BK456 := ak hbox; have GW456 := gy hg HB; have GE456 := gy hg HB; replace HB := bs HB hb; clear hb hbox hg; obtain ⟨_, _, _, _, _, _⟩ := bc3 BK456) | ((with_reducible refine gate_callee (f := 160) rfl ?_); refine goesL_ (some 7) rfl rfl Try.func160 KR rfl #[.slice A0 l0.length c0, .agg #[.int .i64 a1_0, .int .i64 a1_1, .int .i64 a1_2]] rfl AR ?_; (with_reducible refine (impl_Address_160.calls k _ _ l0 a1_0 a1_1 a1_2 t457 _ ?side1 ?side2 A3.out).mono ?_); (case side1 => exact CR (Kd.C_below HR0.out HB.out)); (case side2 => exact HC0.out); rintro e w6 ⟨rfl, hb⟩; refine ⟨_, rfl, ?_⟩; replace BK456 := kf BK456 hb; replace HB := bs HB hb; (try clear hb); (try clear hb2); (try clear hk); (try clear hi)))
 go_ret
 exact ⟨RT, PB⟩

end Go.Proofs.Ytgcamebeonodeaa.MFnVisits
