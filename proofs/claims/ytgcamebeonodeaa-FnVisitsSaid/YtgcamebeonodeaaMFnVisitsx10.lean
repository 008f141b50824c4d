-- Written by a program of this session out of the translation's own print. Not trusted: Lean checks it.
import Derived.Test.YtgcamebeonodeaaShr2
import Derived.Test.YtgcamebeonodeaaMFnVisitsx0
import Derived.Test.YtgcamebeonodeaaMFnVisitsx2
import Derived.Test.YtgcamebeonodeaaMFnVisitsx3
import Derived.Test.YtgcamebeonodeaaMFnVisitsx5
import Derived.Test.YtgcamebeonodeaaMFnVisitsx6
import Derived.Test.YtgcamebeonodeaaMFnVisitsx8
import Derived.Test.YtgcamebeonodeaaMFnVisitsx9
namespace Go.Proofs.Ytgcamebeonodeaa.MFnVisits
open Go.RowKit Go.Proofs.YtgcamebeonodeaaW.PrintWords Go.Proofs.YtgcamebeonodeaaW.PrintLast Go.Proofs.YtgcamebeonodeaaW.PrintMore
attribute [local go_sem] max2_int min2_int max_two min_two max_three min_three max_four min_four   -- for this text's walks alone
set_option linter.unusedVariables false
set_option linter.unusedSimpArgs false

/-! ### spec_IsVisit: function 32 -/
def spec_IsVisit.f (k : Nat) (l0_0 : List (S169)) (a0_1 : Int) (a0_2 : Int) (l0_3 : List Int) : Option (Bool) := (spec_IsSite.f k l0_0).bind fun t526 => (if t526 = true then ((spec_l1In.f a0_1 0 1000).bind fun t527 => (if t527 = true then ((spec_l1In.f a0_2 0 9999).bind fun t528 => (if t528 = true then (if (l0_3.length : Int) ≤ 8 then ((spec_l11All.f k l0_3 (l0_3.length : Int)).bind fun t529 => (some t529)) else (some false)) else (some false))) else (some false))) else (some false))
set_option maxHeartbeats 8000000 in
set_option maxRecDepth 100000 in
theorem spec_IsVisit.calls (k : Nat) (A0_0 : Option Addr) (c0_0 : Nat) (l0_0 : List (S169)) (a0_1 : Int) (a0_2 : Int) (A0_3 : Option Addr) (c0_3 : Nat) (l0_3 : List Int) (r : Bool) (w : World) (hr0_0 : Kd.C k169 w A0_0 l0_0.length l0_0) (hc0_0 : l0_0.length ≤ c0_0) (hr0_3 : Kd.C (Kd.int .i64) w A0_3 l0_3.length l0_3) (hc0_3 : l0_3.length ≤ c0_3) (h : spec_IsVisit.f k l0_0 a0_1 a0_2 l0_3 = some r) :
  Calls Try.prog 32 #[.agg #[.slice A0_0 l0_0.length c0_0, .int .i64 a0_1, .int .i64 a0_2, .slice A0_3 l0_3.length c0_3]] w fun e w' => e = .returned (.bool r) ∧ Below w.heap.size w w' := by
 have hu61 := Try.underlying61
 have HR0_0 := Aside0.mk hr0_0
 have HC0_0 := Aside0.mk hc0_0
 clear hr0_0 hc0_0
 have HR0_3 := Aside0.mk hr0_3
 have HC0_3 := Aside0.mk hc0_3
 clear hr0_3 hc0_3
 have HB := ak (Below.refl w.heap.size w)
 have H : ((spec_IsSite.f k l0_0).bind fun t526 => (if t526 = true then ((spec_l1In.f a0_1 0 1000).bind fun t527 => (if t527 = true then ((spec_l1In.f a0_2 0 9999).bind fun t528 => (if t528 = true then (if (l0_3.length : Int) ≤ 8 then ((spec_l11All.f k l0_3 (l0_3.length : Int)).bind fun t529 => (some t529)) else (some false)) else (some false))) else (some false))) else (some false))) = some r := h
 clear h
 replace H := Option.bind_eq_some_iff.mp H
 obtain ⟨t526, A20, H⟩ := H
 replace H : (if t526 = true then ((spec_l1In.f a0_1 0 1000).bind fun t527 => (if t527 = true then ((spec_l1In.f a0_2 0 9999).bind fun t528 => (if t528 = true then (if (l0_3.length : Int) ≤ 8 then ((spec_l11All.f k l0_3 (l0_3.length : Int)).bind fun t529 => (some t529)) else (some false)) else (some false))) else (some false))) else (some false)) = some r := H
 have A2 := Aside0.mk A20
 clear A20
 by_cases c3 : t526 = true
 ·subst c3
  have H1 : ((spec_l1In.f a0_1 0 1000).bind fun t527 => (if t527 = true then ((spec_l1In.f a0_2 0 9999).bind fun t528 => (if t528 = true then (if (l0_3.length : Int) ≤ 8 then ((spec_l11All.f k l0_3 (l0_3.length : Int)).bind fun t529 => (some t529)) else (some false)) else (some false))) else (some false))) = some r := by rw [if_pos rfl] at H; exact H
  clear H
  have H := H1
  clear H1
  replace H := Option.bind_eq_some_iff.mp H
  obtain ⟨t527, A40, H⟩ := H
  replace H : (if t527 = true then ((spec_l1In.f a0_2 0 9999).bind fun t528 => (if t528 = true then (if (l0_3.length : Int) ≤ 8 then ((spec_l11All.f k l0_3 (l0_3.length : Int)).bind fun t529 => (some t529)) else (some false)) else (some false))) else (some false)) = some r := H
  have A4 := Aside0.mk A40
  clear A40
  by_cases c5 : t527 = true
  ·subst c5
   have H1 : ((spec_l1In.f a0_2 0 9999).bind fun t528 => (if t528 = true then (if (l0_3.length : Int) ≤ 8 then ((spec_l11All.f k l0_3 (l0_3.length : Int)).bind fun t529 => (some t529)) else (some false)) else (some false))) = some r := by rw [if_pos rfl] at H; exact H
   clear H
   have H := H1
   clear H1
   replace H := Option.bind_eq_some_iff.mp H
   obtain ⟨t528, A60, H⟩ := H
   replace H : (if t528 = true then (if (l0_3.length : Int) ≤ 8 then ((spec_l11All.f k l0_3 (l0_3.length : Int)).bind fun t529 => (some t529)) else (some false)) else (some false)) = some r := H
   have A6 := Aside0.mk A60
   clear A60
   by_cases c7 : t528 = true
   ·subst c7
    have H1 : (if (l0_3.length : Int) ≤ 8 then ((spec_l11All.f k l0_3 (l0_3.length : Int)).bind fun t529 => (some t529)) else (some false)) = some r := by rw [if_pos rfl] at H; exact H
    clear H
    have H := H1
    clear H1
    by_cases c8 : (l0_3.length : Int) ≤ 8
    ·rw [if_pos c8] at H
     have c8b0 : decide ((l0_3.length : Int) ≤ 8) = true := decide_eq_true c8
     have c8b1 : decide (l0_3.length ≤ 8) = true := decide_eq_true (by omega)
     clear c8
     replace H := Option.bind_eq_some_iff.mp H
     obtain ⟨t529, A90, H⟩ := H
     replace H : (some t529) = some r := H
     have A9 := Aside0.mk A90
     clear A90
     obtain rfl := Option.some.inj H
     go_enter Try.func32, Try.ntmps32
     go_wp2_with (first | ((with_reducible refine gate_dst (N := 1) rfl ?_); (try (refine gate_guard (by rfl) ?_; dsimp only)); refine bx_ (N := 1) #[.slice A0_0 l0_0.length c0_0, .int .i64 a0_1, .int .i64 a0_2, .slice A0_3 l0_3.length c0_3] 61 ?_; intro gb525 hg w10 hbox hb; have BK525 := ak hbox; have GW525 := gy hg HB; have GE525 := gy hg HB; replace HB := bs HB hb; clear hb hbox hg; obtain ⟨_, _, _, _, _, _, _, _⟩ := bc4 BK525) | ((with_reducible refine gate_callee (f := 90) rfl ?_); refine goesL_ (some 5) rfl rfl Try.func90 KR rfl #[.slice A0_0 l0_0.length c0_0] rfl AR ?_; (with_reducible refine (spec_IsSite.calls k _ _ l0_0 true _ ?side1 ?side2 A2.out).mono ?_); (case side1 => exact CR (Kd.C_below HR0_0.out HB.out)); (case side2 => exact HC0_0.out); rintro e w12 ⟨rfl, hb⟩; refine ⟨_, rfl, ?_⟩; replace BK525 := kf BK525 hb; replace HB := bs HB hb; (try clear hb); (try clear hb2); (try clear hk); (try clear hi); obtain ⟨_, _, _, _, _, _, _, _⟩ := bc4 BK525) | (go_at_call 91; (with_reducible refine (spec_l1In.calls a0_1 0 1000 true _ A4.out).mono ?_); rintro e w' ⟨rfl, ⟨nd, rfl⟩⟩) | (go_at_call 91; (with_reducible refine (spec_l1In.calls a0_2 0 9999 true _ A6.out).mono ?_); rintro e w' ⟨rfl, ⟨nd, rfl⟩⟩) | (go_at_call 92; (with_reducible refine (spec_l11All.calls k _ _ l0_3 (l0_3.length : Int) t529 _ ?side1 ?side2 A9.out).mono ?_); (case side1 => repeat (first | exact (Kd.C_below HR0_3.out PB) | (with_reducible refine Kd.C_alloc ?_ _) | (with_reducible refine Kd.C_drewN ?_ _) | (with_reducible refine Kd.C_drew ?_))); (case side2 => exact HC0_3.out); rintro e w' ⟨rfl, ⟨nd, rfl⟩⟩))
     go_ret
     exact ⟨RT, PB⟩
    ·rw [if_neg c8] at H
     have c8b0 : decide ((l0_3.length : Int) ≤ 8) = false := decide_eq_false c8
     have c8b1 : decide (l0_3.length ≤ 8) = false := decide_eq_false (by omega)
     clear c8
     obtain rfl := Option.some.inj H
     go_enter Try.func32, Try.ntmps32
     go_wp2_with (first | ((with_reducible refine gate_dst (N := 1) rfl ?_); (try (refine gate_guard (by rfl) ?_; dsimp only)); refine bx_ (N := 1) #[.slice A0_0 l0_0.length c0_0, .int .i64 a0_1, .int .i64 a0_2, .slice A0_3 l0_3.length c0_3] 61 ?_; intro gb525 hg w14 hbox hb; have BK525 := ak hbox; have GW525 := gy hg HB; have GE525 := gy hg HB; replace HB := bs HB hb; clear hb hbox hg; obtain ⟨_, _, _, _, _, _, _, _⟩ := bc4 BK525) | ((with_reducible refine gate_callee (f := 90) rfl ?_); refine goesL_ (some 5) rfl rfl Try.func90 KR rfl #[.slice A0_0 l0_0.length c0_0] rfl AR ?_; (with_reducible refine (spec_IsSite.calls k _ _ l0_0 true _ ?side1 ?side2 A2.out).mono ?_); (case side1 => exact CR (Kd.C_below HR0_0.out HB.out)); (case side2 => exact HC0_0.out); rintro e w16 ⟨rfl, hb⟩; refine ⟨_, rfl, ?_⟩; replace BK525 := kf BK525 hb; replace HB := bs HB hb; (try clear hb); (try clear hb2); (try clear hk); (try clear hi); obtain ⟨_, _, _, _, _, _, _, _⟩ := bc4 BK525) | (go_at_call 91; (with_reducible refine (spec_l1In.calls a0_1 0 1000 true _ A4.out).mono ?_); rintro e w' ⟨rfl, ⟨nd, rfl⟩⟩) | (go_at_call 91; (with_reducible refine (spec_l1In.calls a0_2 0 9999 true _ A6.out).mono ?_); rintro e w' ⟨rfl, ⟨nd, rfl⟩⟩))
     go_ret
     exact ⟨RT, PB⟩
   ·replace c7 := Bool.eq_false_iff.mpr c7
    subst c7
    have H1 : (some false) = some r := by rw [if_neg (show ¬ (false = true) by decide)] at H; exact H
    clear H
    have H := H1
    clear H1
    obtain rfl := Option.some.inj H
    go_enter Try.func32, Try.ntmps32
    go_wp2_with (first | ((with_reducible refine gate_dst (N := 1) rfl ?_); (try (refine gate_guard (by rfl) ?_; dsimp only)); refine bx_ (N := 1) #[.slice A0_0 l0_0.length c0_0, .int .i64 a0_1, .int .i64 a0_2, .slice A0_3 l0_3.length c0_3] 61 ?_; intro gb525 hg w18 hbox hb; have BK525 := ak hbox; have GW525 := gy hg HB; have GE525 := gy hg HB; replace HB := bs HB hb; clear hb hbox hg; obtain ⟨hcz19_0, hcz19_1, hcz19_2, hcz19_3, hfz19_0, hfz19_1, hfz19_2, hfz19_3⟩ := bc4 BK525) | ((with_reducible refine gate_callee (f := 90) rfl ?_); refine goesL_ (some 5) rfl rfl Try.func90 KR rfl #[.slice A0_0 l0_0.length c0_0] rfl AR ?_; (with_reducible refine (spec_IsSite.calls k _ _ l0_0 true _ ?side1 ?side2 A2.out).mono ?_); (case side1 => exact CR (Kd.C_below HR0_0.out HB.out)); (case side2 => exact HC0_0.out); rintro e w20 ⟨rfl, hb⟩; refine ⟨_, rfl, ?_⟩; replace BK525 := kf BK525 hb; replace HB := bs HB hb; (try clear hb); (try clear hb2); (try clear hk); (try clear hi); obtain ⟨_, _, _, _, _, _, _, _⟩ := bc4 BK525) | (go_at_call 91; (with_reducible refine (spec_l1In.calls a0_1 0 1000 true _ A4.out).mono ?_); rintro e w' ⟨rfl, ⟨nd, rfl⟩⟩) | (go_at_call 91; (with_reducible refine (spec_l1In.calls a0_2 0 9999 false _ A6.out).mono ?_); rintro e w' ⟨rfl, ⟨nd, rfl⟩⟩))
    go_ret
    exact ⟨RT, PB⟩
  ·replace c5 := Bool.eq_false_iff.mpr c5
   subst c5
   have H1 : (some false) = some r := by rw [if_neg (show ¬ (false = true) by decide)] at H; exact H
   clear H
   have H := H1
   clear H1
   obtain rfl := Option.some.inj H
   go_enter Try.func32, Try.ntmps32
   go_wp2_with (first | ((with_reducible refine gate_dst (N := 1) rfl ?_); (try (refine gate_guard (by rfl) ?_; dsimp only)); refine bx_ (N := 1) #[.slice A0_0 l0_0.length c0_0, .int .i64 a0_1, .int .i64 a0_2, .slice A0_3 l0_3.length c0_3] 61 ?_; intro gb525 hg w22 hbox hb; have BK525 := ak hbox; have GW525 := gy hg HB; have GE525 := gy hg HB; replace HB := bs HB hb; clear hb hbox hg; obtain ⟨_, _, _, _, _, _, _, _⟩ := bc4 BK525) | ((with_reducible refine gate_callee (f := 90) rfl ?_); refine goesL_ (some 5) rfl rfl Try.func90 KR rfl #[.slice A0_0 l0_0.length c0_0] rfl AR ?_; (with_reducible refine (spec_IsSite.calls k _ _ l0_0 true _ ?side1 ?side2 A2.out).mono ?_); (case side1 => exact CR (Kd.C_below HR0_0.out HB.out)); (case side2 => exact HC0_0.out); rintro e w24 ⟨rfl, hb⟩; refine ⟨_, rfl, ?_⟩; replace BK525 := kf BK525 hb; replace HB := bs HB hb; (try clear hb); (try clear hb2); (try clear hk); (try clear hi); obtain ⟨hcz25_0, hcz25_1, hcz25_2, hcz25_3, hfz25_0, hfz25_1, hfz25_2, hfz25_3⟩ := bc4 BK525) | (go_at_call 91; (with_reducible refine (spec_l1In.calls a0_1 0 1000 false _ A4.out).mono ?_); rintro e w' ⟨rfl, ⟨nd, rfl⟩⟩))
   go_ret
   exact ⟨RT, PB⟩
 ·replace c3 := Bool.eq_false_iff.mpr c3
  subst c3
  have H1 : (some false) = some r := by rw [if_neg (show ¬ (false = true) by decide)] at H; exact H
  clear H
  have H := H1
  clear H1
  obtain rfl := Option.some.inj H
  go_enter Try.func32, Try.ntmps32
  go_wp2_with (first | ((with_reducible refine gate_dst (N := 1) rfl ?_); (try (refine gate_guard (by rfl) ?_; dsimp only)); refine bx_ (N := 1) #[.slice A0_0 l0_0.length c0_0, .int .i64 a0_1, .int .i64 a0_2, .slice A0_3 l0_3.length c0_3] 61 ?_; intro gb525 hg w26 hbox hb; have BK525 := ak hbox; have GW525 := gy hg HB; have GE525 := gy hg HB; replace HB := bs HB hb; clear hb hbox hg; obtain ⟨_, _, _, _, _, _, _, _⟩ := bc4 BK525) | ((with_reducible refine gate_callee (f := 90) rfl ?_); refine goesL_ (some 5) rfl rfl Try.func90 KR rfl #[.slice A0_0 l0_0.length c0_0] rfl AR ?_; (with_reducible refine (spec_IsSite.calls k _ _ l0_0 false _ ?side1 ?side2 A2.out).mono ?_); (case side1 => exact CR (Kd.C_below HR0_0.out HB.out)); (case side2 => exact HC0_0.out); rintro e w28 ⟨rfl, hb⟩; refine ⟨_, rfl, ?_⟩; replace BK525 := kf BK525 hb; replace HB := bs HB hb; (try clear hb); (try clear hb2); (try clear hk); (try clear hi)))
  go_ret
  exact ⟨RT, PB⟩

/-! ### impl_Address_93: function 93 -/
def impl_Address_93.f (l0 : List (S26)) : Option ((List (S26))) := (some (([] : List (S26)) : List (S26))).bind fun y530 => (if y530.length + l0.length < 5864062014805 then (some (y530 ++ l0)) else (none))
set_option maxHeartbeats 8000000 in
set_option maxRecDepth 100000 in
theorem impl_Address_93.calls (A0 : Option Addr) (c0 : Nat) (l0 : List (S26)) (r : List (S26)) (w : World) (hr0 : Kd.C k26 w A0 l0.length l0) (hc0 : l0.length ≤ c0) (h : impl_Address_93.f l0 = some r) :
  Calls Try.prog 93 #[.slice A0 l0.length c0] w fun e w' => ∃ v0_ : Value, e = .returned (v0_) ∧ Kd.R k26 26 w' w.heap.size (fun _ => True) v0_ r ∧ Below w.heap.size w w' := by
 cases A0 with
 | none =>
  have hz_ : l0.length = 0 := C_none_length hr0
  obtain rfl : l0 = [] := List.eq_nil_of_length_eq_zero hz_
  obtain rfl : r = [] := by
   have h2_ := h
   simp [impl_Address_93.f] at h2_
   exact h2_
  have hnn_ : ∀ W, (binOp .eql 66 (.slice none 0 c0) (.slice none 0 0)).run Try.prog W = .ok (.bool true) W := fun W => eql_nil_none (P := Try.prog) W 66 26 0 c0 Try.underlying66
  go_enter Try.func93, Try.ntmps93
  go_wp2
  go_ret
  exact ⟨_, rfl, Kd.R_nil _ _ _ _ _, Below.refl _ _⟩
 | some ad_ =>
  have hnn_ : ∀ W, (binOp .eql 66 (.slice (some ad_) l0.length c0) (.slice none 0 0)).run Try.prog W = .ok (.bool false) W := fun W => eql_nil_some (P := Try.prog) W 66 26 ad_ l0.length c0 Try.underlying66
  have HR0 := Aside0.mk hr0
  have HC0 := Aside0.mk hc0
  clear hr0 hc0
  have HB := ak (Below.refl w.heap.size w)
  have H : ((some (([] : List (S26)) : List (S26))).bind fun y530 => (if y530.length + l0.length < 5864062014805 then (some (y530 ++ l0)) else (none))) = some r := h
  clear h
  obtain ⟨y530, hy530⟩ : ∃ y_ : List (S26), y_ = (([] : List (S26))) := ⟨_, rfl⟩
  replace H : (if y530.length + l0.length < 5864062014805 then (some (y530 ++ l0)) else (none)) = some r := by first | (rw [hy530]; with_reducible exact H) | (have H2_ := (Option.bind_some _ _).symm.trans H; rw [hy530]; with_reducible exact H2_) | (have H2_ := (Option.bind_some _ _).symm.trans H; with_reducible exact H2_) | with_reducible exact H | (rw [hy530]; exact H) | exact H
  have Ny530 := Aside0.mk hy530
  clear hy530
  by_cases c2 : y530.length + l0.length < 5864062014805
  ·rw [if_pos c2] at H
   have LMc2 := Aside0.mk c2
   clear c2
   obtain ⟨y533, hy533⟩ : ∃ y_ : List (S26), y_ = (y530 ++ l0) := ⟨_, rfl⟩
   replace H : (some y533) = some r := by first | (rw [hy533]; with_reducible exact H) | (have H2_ := (Option.bind_some _ _).symm.trans H; rw [hy533]; with_reducible exact H2_) | (have H2_ := (Option.bind_some _ _).symm.trans H; with_reducible exact H2_) | with_reducible exact H | (rw [hy533]; exact H) | exact H
   have Ny533 := Aside0.mk hy533
   clear hy533
   obtain rfl := Option.some.inj H
   go_enter Try.func93, Try.ntmps93
   go_wp2_with (first | ((with_reducible refine gate_dst (N := 5) rfl ?_); refine Kd.R_lit k26 _ 26 ?hg (N := 5) ?hd (xs := ([] : List (S26))) (inner := []) (ok := fun _ => True) (okp := fun _ => True) ?hr ?hp (fun _ hk => hk) trivial (Below.refl _ _) (Nat.le_refl _) (by simp) ?_; (case hd => rfl); (case hg => rfl); (case hr => first | (go_simp; done) | (go_simp; rfl)); (case hp => exact (Reps.none _ _)); intro v531 w3 ho4 hb hg_ hnew_; clear hg_ hnew_; (first | rw [← Ny530.out] at ho4 | (simp only [Int.reduceToNat] at ho4; rw [← Ny530.out] at ho4)); have HO532 := Rn0 ho4 HB; replace HB := bs HB hb; clear hb ho4) | ((with_reducible refine gate_builtin (b := .append) (xs := #[.tmp 5, .tmp 6]) rfl ?_); at_builtin; refine Kd.R_append_rows k26 (w0 := w) w.heap.size rfl (.tmp 5) (.tmp 6) 66 26 (.agg #[(.int .i64 0), (.int .i64 0), (.int .i64 0)]) 24 rfl Try.underlying66 info26 rfl (by decide) (by omega) v531 y530 l0 _ _ _ (fun _ => True) (fun _ => False) rfl rfl ?aO ?aR (fun _ _ h => h) (fun _ h => h.elim) ?aF ?aB ?aS ?aL ?_; (case aR => repeat (first | exact (Kd.C_below HR0.out HB.out) | (with_reducible refine Kd.C_alloc ?_ _) | (with_reducible refine Kd.C_drewN ?_ _) | (with_reducible refine Kd.C_drew ?_))); (case aB => exact PB); (case aF => exact (fun _ _ => trivial)); (case aO => exact (PR HO532)); (case aS => exact (below_size PB)); (case aL => have := LMc2.out; omega); intro v534 w5 ho hb hg hat; rw [← Ny533.out] at ho; replace HB := ak hb; have HO535 := ak (ho); clear HO532; clear ho hb hg hat))
   go_ret
   exact ⟨_, RT, by (with_reducible repeat (first | apply Kd.R_alloc | apply Kd.R_drewN | apply Kd.R_drew)); exact HO535.out, PB⟩
  ·rw [if_neg c2] at H
   exact absurd H (by simp)

/-! ### impl_AddressesFrom: function 33 -/
def impl_AddressesFrom.j0 : Nat → Int → Bool → List (S169) → Int → Int → List Int → Int → Int → Int → Int → Option ((List (S26)))
  | 0, _, _, _, _, _, _, _, _, _, _ => none
  | k + 1, x2, x21, x537000, x537001, x537002, x537003, x538000, x538001, x538002, x538003 => if x21 = true then (some ([] : List (S26))) else ((impl_FollowAt.f k x537000 x538001 x538002 x538003 (wrap64 (x537001 + x2))).bind fun bt540 => ((impl_Address_93.f bt540.2.2.2.2.2).bind fun t551 => (some t551)))
def impl_AddressesFrom.f (k : Nat) (l0_0 : List (S169)) (a0_1 : Int) (a0_2 : Int) (l0_3 : List Int) (a1_0 : Int) (a1_1 : Int) (a1_2 : Int) (a1_3 : Int) (a2 : Int) : Option ((List (S26))) := (impl_IsVisit.f k l0_0 a0_1 a0_2 l0_3).bind fun t538 => (if t538 = true then ((impl_InRange.f a2 0 100).bind fun t539 => (if t539 = true then (impl_AddressesFrom.j0 k a2 (a1_0 != 1) l0_0 a0_1 a0_2 l0_3 a1_0 a1_1 a1_2 a1_3) else (impl_AddressesFrom.j0 k a2 true l0_0 a0_1 a0_2 l0_3 a1_0 a1_1 a1_2 a1_3))) else (impl_AddressesFrom.j0 k a2 true l0_0 a0_1 a0_2 l0_3 a1_0 a1_1 a1_2 a1_3))
set_option maxHeartbeats 8000000 in
set_option maxRecDepth 100000 in
theorem impl_AddressesFrom.calls (k : Nat) (A0_0 : Option Addr) (c0_0 : Nat) (l0_0 : List (S169)) (a0_1 : Int) (a0_2 : Int) (A0_3 : Option Addr) (c0_3 : Nat) (l0_3 : List Int) (a1_0 : Int) (a1_1 : Int) (a1_2 : Int) (a1_3 : Int) (a2 : Int) (r : List (S26)) (w : World) (hr0_0 : Kd.C k169 w A0_0 l0_0.length l0_0) (hc0_0 : l0_0.length ≤ c0_0) (hr0_3 : Kd.C (Kd.int .i64) w A0_3 l0_3.length l0_3) (hc0_3 : l0_3.length ≤ c0_3) (h : impl_AddressesFrom.f k l0_0 a0_1 a0_2 l0_3 a1_0 a1_1 a1_2 a1_3 a2 = some r) :
  Calls Try.prog 33 #[.agg #[.slice A0_0 l0_0.length c0_0, .int .i64 a0_1, .int .i64 a0_2, .slice A0_3 l0_3.length c0_3], .agg #[.int .i64 a1_0, .int .i64 a1_1, .int .i64 a1_2, .int .i64 a1_3], .int .i64 a2] w fun e w' => ∃ v0_ : Value, e = .returned (v0_) ∧ Kd.R k26 26 w' w.heap.size (fun _ => True) v0_ r ∧ Below w.heap.size w w' := by
 have hu61 := Try.underlying61
 have hu50 := Try.underlying50
 have hu26 := Try.underlying26
 have hu38 := Try.underlying38
 have HR0_0 := Aside0.mk hr0_0
 have HC0_0 := Aside0.mk hc0_0
 clear hr0_0 hc0_0
 have HR0_3 := Aside0.mk hr0_3
 have HC0_3 := Aside0.mk hc0_3
 clear hr0_3 hc0_3
 have HB := ak (Below.refl w.heap.size w)
 have H : ((impl_IsVisit.f k l0_0 a0_1 a0_2 l0_3).bind fun t538 => (if t538 = true then ((impl_InRange.f a2 0 100).bind fun t539 => (if t539 = true then (impl_AddressesFrom.j0 k a2 (a1_0 != 1) l0_0 a0_1 a0_2 l0_3 a1_0 a1_1 a1_2 a1_3) else (impl_AddressesFrom.j0 k a2 true l0_0 a0_1 a0_2 l0_3 a1_0 a1_1 a1_2 a1_3))) else (impl_AddressesFrom.j0 k a2 true l0_0 a0_1 a0_2 l0_3 a1_0 a1_1 a1_2 a1_3))) = some r := h
 clear h
 have HC4 := Aside0.mk H
 clear H
 go_enter Try.func33, Try.ntmps33
 go_upto_region 1 with (first | ((with_reducible refine gate_dst (N := 3) rfl ?_); refine bx_ (N := 3) #[.slice A0_0 l0_0.length c0_0, .int .i64 a0_1, .int .i64 a0_2, .slice A0_3 l0_3.length c0_3] 61 ?_; intro gb536 hg w5 hbox hb; have BK536 := ak hbox; have GW536 := gy hg HB; have GE536 := gy hg HB; replace HB := bs HB hb; clear hb hbox hg) | ((with_reducible refine gate_dst (N := 4) rfl ?_); refine bx_ (N := 4) #[.int .i64 a1_0, .int .i64 a1_1, .int .i64 a1_2, .int .i64 a1_3] 50 ?_; intro gb537 hg w6 hbox hb; have BK537 := ak hbox; have GW537 := gy hg HB; have GE537 := gy hg HB; replace HB := bs HB hb; have NB536_537 := gm hg BK536; have NB537_536 := gn hg BK536; replace BK536 := kf BK536 hb; clear hb hbox hg))
 (try simp only [Act.put, List.setIfInBounds_toArray, List.set_cons_zero, List.set_cons_succ])
 go_cut [21] (fun v21 wc => ∃ (kq : Nat) (x21_3 : Bool), v21 = .bool x21_3 ∧ Aside0 (impl_AddressesFrom.j0 kq a2 x21_3 l0_0 a0_1 a0_2 l0_3 a1_0 a1_1 a1_2 a1_3 = some r) ∧ Aside0 (kq ≤ k) ∧ Aside0 (wc.heap[gb536]? = some (.cells #[(.slice A0_0 l0_0.length c0_0), .int .i64 a0_1, .int .i64 a0_2, (.slice A0_3 l0_3.length c0_3)] 61 (0, 0))) ∧ Aside0 (wc.heap[gb537]? = some (.cells #[.int .i64 a1_0, .int .i64 a1_1, .int .i64 a1_2, .int .i64 a1_3] 50 (0, 0))) ∧ Aside0 (Below w.heap.size w wc))
 case first =>
  have H := HC4.out
  clear HC4
  replace H := Option.bind_eq_some_iff.mp H
  obtain ⟨t538, A70, H⟩ := H
  replace H : (if t538 = true then ((impl_InRange.f a2 0 100).bind fun t539 => (if t539 = true then (impl_AddressesFrom.j0 k a2 (a1_0 != 1) l0_0 a0_1 a0_2 l0_3 a1_0 a1_1 a1_2 a1_3) else (impl_AddressesFrom.j0 k a2 true l0_0 a0_1 a0_2 l0_3 a1_0 a1_1 a1_2 a1_3))) else (impl_AddressesFrom.j0 k a2 true l0_0 a0_1 a0_2 l0_3 a1_0 a1_1 a1_2 a1_3)) = some r := H
  have A7 := Aside0.mk A70
  clear A70
  by_cases c8 : t538 = true
  ·subst c8
   have H1 : ((impl_InRange.f a2 0 100).bind fun t539 => (if t539 = true then (impl_AddressesFrom.j0 k a2 (a1_0 != 1) l0_0 a0_1 a0_2 l0_3 a1_0 a1_1 a1_2 a1_3) else (impl_AddressesFrom.j0 k a2 true l0_0 a0_1 a0_2 l0_3 a1_0 a1_1 a1_2 a1_3))) = some r := by rw [if_pos rfl] at H; exact H
   clear H
   have H := H1
   clear H1
   replace H := Option.bind_eq_some_iff.mp H
   obtain ⟨t539, A90, H⟩ := H
   replace H : (if t539 = true then (impl_AddressesFrom.j0 k a2 (a1_0 != 1) l0_0 a0_1 a0_2 l0_3 a1_0 a1_1 a1_2 a1_3) else (impl_AddressesFrom.j0 k a2 true l0_0 a0_1 a0_2 l0_3 a1_0 a1_1 a1_2 a1_3)) = some r := H
   have A9 := Aside0.mk A90
   clear A90
   by_cases c10 : t539 = true
   ·subst c10
    have H1 : (impl_AddressesFrom.j0 k a2 (a1_0 != 1) l0_0 a0_1 a0_2 l0_3 a1_0 a1_1 a1_2 a1_3) = some r := by rw [if_pos rfl] at H; exact H
    clear H
    have H := H1
    clear H1
    have H' := Aside0.mk H
    clear H
    have hnb11 := NB536_537.out
    have hnc11 := NB537_536.out
    obtain ⟨hcz12_0, hcz12_1, hcz12_2, hcz12_3, hfz12_0, hfz12_1, hfz12_2, hfz12_3⟩ := bc4 BK536
    go_wp2_with (first | ((with_reducible refine gate_callee (f := 31) rfl ?_); refine goesL_ (some 10) rfl rfl Try.func31 KR rfl #[.agg #[.slice A0_0 l0_0.length c0_0, .int .i64 a0_1, .int .i64 a0_2, .slice A0_3 l0_3.length c0_3]] rfl AR ?_; (with_reducible refine (impl_IsVisit.calls k _ _ l0_0 a0_1 a0_2 _ _ l0_3 true _ ?side1 ?side2 ?side3 ?side4 A7.out).mono ?_); (case side1 => exact CR (Kd.C_below HR0_0.out HB.out)); (case side2 => exact HC0_0.out); (case side3 => exact CR (Kd.C_below HR0_3.out HB.out)); (case side4 => exact HC0_3.out); rintro e w13 ⟨rfl, hb⟩; refine ⟨_, rfl, ?_⟩; replace BK536 := kf BK536 hb; replace BK537 := kf BK537 hb; replace HB := bs HB hb; (try clear hb); (try clear hb2); (try clear hk); (try clear hi)) | (go_at_call 69; (with_reducible refine (impl_InRange.calls a2 0 100 true _ A9.out).mono ?_); rintro e w' ⟨rfl, ⟨nd, rfl⟩⟩; obtain ⟨hcz14_0, hcz14_1, hcz14_2, hcz14_3, hfz14_0, hfz14_1, hfz14_2, hfz14_3⟩ := bc4 BK537))
    go_meet
    case rel => exact ⟨_, ((a1_0 != 1)), (by first | rfl | (simp; done) | (simp [*]; done)), H', ⟨by first | omega | exact Nat.le_refl _⟩, ⟨PK BK536⟩, ⟨PK BK537⟩, ⟨PB⟩⟩
   ·replace c10 := Bool.eq_false_iff.mpr c10
    subst c10
    have H1 : (impl_AddressesFrom.j0 k a2 true l0_0 a0_1 a0_2 l0_3 a1_0 a1_1 a1_2 a1_3) = some r := by rw [if_neg (show ¬ (false = true) by decide)] at H; exact H
    clear H
    have H := H1
    clear H1
    have H' := Aside0.mk H
    clear H
    have hnb15 := NB536_537.out
    have hnc15 := NB537_536.out
    obtain ⟨hcz16_0, hcz16_1, hcz16_2, hcz16_3, hfz16_0, hfz16_1, hfz16_2, hfz16_3⟩ := bc4 BK536
    go_wp2_with (first | ((with_reducible refine gate_callee (f := 31) rfl ?_); refine goesL_ (some 10) rfl rfl Try.func31 KR rfl #[.agg #[.slice A0_0 l0_0.length c0_0, .int .i64 a0_1, .int .i64 a0_2, .slice A0_3 l0_3.length c0_3]] rfl AR ?_; (with_reducible refine (impl_IsVisit.calls k _ _ l0_0 a0_1 a0_2 _ _ l0_3 true _ ?side1 ?side2 ?side3 ?side4 A7.out).mono ?_); (case side1 => exact CR (Kd.C_below HR0_0.out HB.out)); (case side2 => exact HC0_0.out); (case side3 => exact CR (Kd.C_below HR0_3.out HB.out)); (case side4 => exact HC0_3.out); rintro e w17 ⟨rfl, hb⟩; refine ⟨_, rfl, ?_⟩; replace BK536 := kf BK536 hb; replace BK537 := kf BK537 hb; replace HB := bs HB hb; (try clear hb); (try clear hb2); (try clear hk); (try clear hi)) | (go_at_call 69; (with_reducible refine (impl_InRange.calls a2 0 100 false _ A9.out).mono ?_); rintro e w' ⟨rfl, ⟨nd, rfl⟩⟩))
    go_meet
    case rel => exact ⟨_, (true), (by first | rfl | (simp; done) | (simp [*]; done)), H', ⟨by first | omega | exact Nat.le_refl _⟩, ⟨PK BK536⟩, ⟨PK BK537⟩, ⟨PB⟩⟩
  ·replace c8 := Bool.eq_false_iff.mpr c8
   subst c8
   have H1 : (impl_AddressesFrom.j0 k a2 true l0_0 a0_1 a0_2 l0_3 a1_0 a1_1 a1_2 a1_3) = some r := by rw [if_neg (show ¬ (false = true) by decide)] at H; exact H
   clear H
   have H := H1
   clear H1
   have H' := Aside0.mk H
   clear H
   have hnb18 := NB536_537.out
   have hnc18 := NB537_536.out
   obtain ⟨hcz19_0, hcz19_1, hcz19_2, hcz19_3, hfz19_0, hfz19_1, hfz19_2, hfz19_3⟩ := bc4 BK536
   go_wp2_with (first | ((with_reducible refine gate_callee (f := 31) rfl ?_); refine goesL_ (some 10) rfl rfl Try.func31 KR rfl #[.agg #[.slice A0_0 l0_0.length c0_0, .int .i64 a0_1, .int .i64 a0_2, .slice A0_3 l0_3.length c0_3]] rfl AR ?_; (with_reducible refine (impl_IsVisit.calls k _ _ l0_0 a0_1 a0_2 _ _ l0_3 false _ ?side1 ?side2 ?side3 ?side4 A7.out).mono ?_); (case side1 => exact CR (Kd.C_below HR0_0.out HB.out)); (case side2 => exact HC0_0.out); (case side3 => exact CR (Kd.C_below HR0_3.out HB.out)); (case side4 => exact HC0_3.out); rintro e w20 ⟨rfl, hb⟩; refine ⟨_, rfl, ?_⟩; replace BK536 := kf BK536 hb; replace BK537 := kf BK537 hb; replace HB := bs HB hb; (try clear hb); (try clear hb2); (try clear hk); (try clear hi)))
   go_meet
   case rel => exact ⟨_, (true), (by first | rfl | (simp; done) | (simp [*]; done)), H', ⟨by first | omega | exact Nat.le_refl _⟩, ⟨PK BK536⟩, ⟨PK BK537⟩, ⟨PB⟩⟩
 case rest =>
  clear HC4
  (try clear c1); (try clear p2); (try clear c3); (try clear c8); (try clear c10); (try clear c11); (try clear c15); (try clear c18); (try clear hcz12_0); (try clear hcz12_1); (try clear hcz12_2); (try clear hcz12_3); (try clear hcz14_0); (try clear hcz14_1); (try clear hcz14_2); (try clear hcz14_3); (try clear hcz16_0); (try clear hcz16_1); (try clear hcz16_2); (try clear hcz16_3); (try clear hcz19_0); (try clear hcz19_1); (try clear hcz19_2); (try clear hcz19_3); (try clear hfz12_0); (try clear hfz12_1); (try clear hfz12_2); (try clear hfz12_3); (try clear hfz14_0); (try clear hfz14_1); (try clear hfz14_2); (try clear hfz14_3); (try clear hfz16_0); (try clear hfz16_1); (try clear hfz16_2); (try clear hfz16_3); (try clear hfz19_0); (try clear hfz19_1); (try clear hfz19_2); (try clear hfz19_3)
  obtain ⟨kq, x21_3, rfl, HA, HJ3, BK536, BK537, HB⟩ := hcut
  cases kq with
  | zero => exact absurd HA.out (by simp [impl_AddressesFrom.j0])
  | succ kj3 =>
   have H := HA.out
   clear HA
   simp only [impl_AddressesFrom.j0] at H
   by_cases c21 : x21_3 = true
   ·subst c21
    have H1 : (some ([] : List (S26))) = some r := by rw [if_pos rfl] at H; exact H
    clear H
    have H := H1
    clear H1
    obtain rfl := Option.some.inj H
    go_wp2
    go_ret
    exact ⟨_, RT, by first | exact Kd.R_nil _ _ _ _ _ | exact Kd.N_nil _ _ _ _ _ | exact Kd.V_nil _ _ _ _ _ | exact Kd.Q_nil _ _ _ _ _ | exact Kd.S_nil _ _ _ _ _, PB⟩
   ·replace c21 := Bool.eq_false_iff.mpr c21
    subst c21
    have H1 : ((impl_FollowAt.f kj3 l0_0 a1_1 a1_2 a1_3 (wrap64 (a0_1 + a2))).bind fun bt540 => ((impl_Address_93.f bt540.2.2.2.2.2).bind fun t551 => (some t551))) = some r := by rw [if_neg (show ¬ (false = true) by decide)] at H; exact H
    clear H
    have H := H1
    clear H1
    replace H := Option.bind_eq_some_iff.mp H
    obtain ⟨⟨t540, t541, t544, t545, t546, t547⟩, A220, H⟩ := H
    replace H : ((impl_Address_93.f t547).bind fun t551 => (some t551)) = some r := H
    have A22 := Aside0.mk A220
    clear A220
    replace H := Option.bind_eq_some_iff.mp H
    obtain ⟨t551, A230, H⟩ := H
    replace H : (some t551) = some r := H
    have A23 := Aside0.mk A230
    clear A230
    obtain rfl := Option.some.inj H
    have hnb24 := NB536_537.out
    have hnc24 := NB537_536.out
    obtain ⟨hcz25_0, hcz25_1, hcz25_2, hcz25_3, hfz25_0, hfz25_1, hfz25_2, hfz25_3⟩ := bc4 BK536
    obtain ⟨_, _, _, _, _, _, _, _⟩ := bc4 BK537
    go_wp2_with (first | ((with_reducible refine gate_callee (f := 86) rfl ?_); refine goesL_ (some 31) rfl rfl Try.func86 KR rfl #[.slice A0_0 l0_0.length c0_0, .agg #[.int .i64 a1_1, .int .i64 a1_2, .int .i64 a1_3], .int .i64 (wrap64 (a0_1 + a2))] rfl AR ?_; (with_reducible refine (impl_FollowAt.calls kj3 _ _ l0_0 a1_1 a1_2 a1_3 (wrap64 (a0_1 + a2)) t540 t541 t544 t545 t546 t547 _ ?side1 ?side2 A22.out).mono ?_); (case side1 => exact CR (Kd.C_below HR0_0.out HB.out)); (case side2 => exact HC0_0.out); rintro e w27 ⟨v542, v548, rfl, ho0, ho1, hb⟩; refine ⟨_, rfl, ?_⟩; have HO543 := Rn0 ho0 HB; have HO549 := Rn0 ho1 HB; replace BK536 := kf BK536 hb; replace BK537 := kf BK537 hb; replace HB := bs HB hb; (try clear hb); (try clear hb2); (try clear hk); (try clear hi); (try clear ho0); (try clear ho1)) | ((with_reducible refine gate_dst (N := 7) rfl ?_); refine bx_ (N := 7) #[.int .i64 0, .slice none 0 0, .int .i64 0, .int .i64 0, .int .i64 0] 38 ?_; intro gb550 hg w28 hbox hb; replace HO543 := Rb HO543 hb; replace HO549 := Rb HO549 hb; have BK550 := ak hbox; have GW550 := gy hg HB; have GE550 := gy hg HB; replace HB := bs HB hb; have NB536_550 := gm hg BK536; have NB550_536 := gn hg BK536; replace BK536 := kf BK536 hb; have NB537_550 := gm hg BK537; have NB550_537 := gn hg BK537; replace BK537 := kf BK537 hb; clear hb hbox hg; have hnb29 := NB550_536.out; have hnc29 := NB536_550.out; have hnb30 := NB550_537.out; have hnc30 := NB537_550.out; obtain ⟨_, _, _, _, _, _, _, _, _, _⟩ := bc5 BK550; obtain ⟨Ao32, co32, eo32⟩ := Kd.R_slice HO543.out; subst eo32; obtain ⟨Ao33, co33, eo33⟩ := Kd.R_slice HO549.out; subst eo33) | ((with_reducible refine gate_callee (f := 93) rfl ?_); refine goesL_ (some 35) rfl rfl Try.func93 KR rfl #[.slice Ao33 t547.length co33] rfl AR ?_; (with_reducible refine (impl_Address_93.calls _ _ t547 t551 _ ?side1 ?side2 A23.out).mono ?_); (case side1 => exact (Kd.R_reads' (Re1 HO549 BK550)).2.2); (case side2 => exact (Kd.R_reads' HO549.out).2.1); rintro e w34 ⟨v552, rfl, ho0, hb⟩; refine ⟨_, rfl, ?_⟩; replace HO543 := ak (Kd.R_below (Re1 HO543 BK550) hb); have HO553 := ak (Kd.R_lower (Kd.R_new' ho0 (Kd.R_lt (Re1 HO549 BK550))) (below_size PB)); replace HO549 := ak (Kd.R_elder' (Re1 HO549 BK550) (Kd.R_base ho0) hb); replace BK536 := kf BK536 hb; replace BK537 := kf BK537 hb; replace BK550 := kp (cs' := #[.int .i64 t540, .slice Ao32 t541.length co32, .int .i64 t544, .int .i64 t545, .int .i64 t546]) BK550 hb; replace HB := bs HB hb; (try clear hb); (try clear hb2); (try clear hk); (try clear hi); (try clear ho0)))
    go_ret
    exact ⟨_, RT, RX HO553.out (fun _ hk => trivial), PB⟩

/-! ### spec_DrawIsResource: function 94 -/
def spec_DrawIsResource.f (k : Nat) (l0 : List Int) : Option (Int × List Int × Int × Int × Int) := (spec_l1New.f k l0).bind fun bt555 => ((spec_l5Any.f k bt555.1 bt555.2.1 bt555.2.2).bind fun bt559 => (some (bt559.1, bt559.2.1, bt559.2.2.1, bt559.2.2.2.1, bt559.2.2.2.2.1)))
set_option maxHeartbeats 8000000 in
set_option maxRecDepth 100000 in
theorem spec_DrawIsResource.calls (k : Nat) (A0 : Option Addr) (c0 : Nat) (l0 : List Int) (r1 : Int) (r2 : List Int) (r3 : Int) (r4 : Int) (r5 : Int) (w : World) (hr0 : Kd.C (Kd.int .u8) w A0 l0.length l0) (hc0 : l0.length ≤ c0) (h : spec_DrawIsResource.f k l0 = some (r1, r2, r3, r4, r5)) :
  Calls Try.prog 94 #[.slice A0 l0.length c0] w fun e w' => ∃ v1_ : Value, e = .returned (.agg #[.int .i64 r1, v1_, .int .i64 r3, .int .i64 r4, .int .i64 r5]) ∧ Kd.R (Kd.int .i64) 3 w' w.heap.size (fun _ => True) v1_ r2 ∧ Below w.heap.size w w' := by
 have hu38 := Try.underlying38
 have HR0 := Aside0.mk hr0
 have HC0 := Aside0.mk hc0
 clear hr0 hc0
 have HB := ak (Below.refl w.heap.size w)
 have H : ((spec_l1New.f k l0).bind fun bt555 => ((spec_l5Any.f k bt555.1 bt555.2.1 bt555.2.2).bind fun bt559 => (some (bt559.1, bt559.2.1, bt559.2.2.1, bt559.2.2.2.1, bt559.2.2.2.2.1)))) = some (r1, r2, r3, r4, r5) := h
 clear h
 replace H := Option.bind_eq_some_iff.mp H
 obtain ⟨⟨t555, t556, t557⟩, A20, H⟩ := H
 replace H : ((spec_l5Any.f k t555 t556 t557).bind fun bt559 => (some (bt559.1, bt559.2.1, bt559.2.2.1, bt559.2.2.2.1, bt559.2.2.2.2.1))) = some (r1, r2, r3, r4, r5) := H
 have A2 := Aside0.mk A20
 clear A20
 replace H := Option.bind_eq_some_iff.mp H
 obtain ⟨⟨t559, t560, t563, t564, t565, t566, t567⟩, A30, H⟩ := H
 replace H : (some (t559, t560, t563, t564, t565)) = some (r1, r2, r3, r4, r5) := H
 have A3 := Aside0.mk A30
 clear A30
 simp only [Option.some.injEq, Prod.mk.injEq] at H
 obtain ⟨rfl, rfl, rfl, rfl, rfl⟩ := H
 go_enter Try.func94, Try.ntmps94
 go_wp2_with (first | ((with_reducible refine gate_dst (N := 2) rfl ?_); refine bx_ (N := 2) #[.int .i64 0, .slice none 0 0, .int .i64 0, .int .i64 0, .int .i64 0] 38 ?_; intro gb554 hg w4 hbox hb; have BK554 := ak hbox; have GW554 := gy hg HB; have GE554 := gy hg HB; replace HB := bs HB hb; clear hb hbox hg) | ((with_reducible refine gate_callee (f := 66) rfl ?_); refine goesL_ (some 5) rfl rfl Try.func66 KR rfl #[.slice A0 l0.length c0] rfl AR ?_; (with_reducible refine (spec_l1New.calls k _ _ l0 t555 t556 t557 w _ ?side1 ?side2 ?side3 A2.out).mono ?_); (case side1 => exact PL); (case side2 => exact HR0.out); (case side3 => exact HC0.out); rintro e w5 ⟨g558, rfl, hi, hb, hb2⟩; refine ⟨_, rfl, ?_⟩; replace HB := ak hb; have HI558 := ak (hi); have NB558_554 := ak (IsS158.ne_blk hi (blk_below (g := gb554) (o := .cells #[.int .i64 0, .slice none 0 0, .int .i64 0, .int .i64 0, .int .i64 0] 38 (0, 0)) (PK BK554) hb2) (by decide)); have NB554_558 := ak (Ne.symm (IsS158.ne_blk hi (blk_below (g := gb554) (o := .cells #[.int .i64 0, .slice none 0 0, .int .i64 0, .int .i64 0, .int .i64 0] 38 (0, 0)) (PK BK554) hb2) (by decide))); replace BK554 := ak (blk_below (g := gb554) (o := .cells #[.int .i64 0, .slice none 0 0, .int .i64 0, .int .i64 0, .int .i64 0] 38 (0, 0)) (PK BK554) hb2); (try clear hb); (try clear hb2); (try clear hk); (try clear hi)) | ((with_reducible refine gate_callee (f := 142) rfl ?_); refine goesL_ (some 7) rfl rfl Try.func142 KR rfl #[.pointer (some ⟨g558, 0, none⟩)] rfl AR ?_; (with_reducible refine (spec_l5Any.calls k g558 t555 t556 t557 t559 t560 t563 t564 t565 t566 t567 w _ ?side1 ?side2 A3.out).mono ?_); (case side1 => repeat (first | (with_reducible first | exact HI558.out | apply IsS158.alloc | apply IsS158.drewN | apply IsS158.drew | apply IsS158.set_1 | apply IsS158.set_2 | refine IsS158.far ?_ NB558_554.out _) | exact HI558.out)); (case side2 => repeat (first | (with_reducible first | exact HB.out | apply below_alloc | apply pw_below_drewN | apply below_drew1 | refine below_set ?_ (IsS158.ge HI558.out) | refine below_set ?_ GE554.out) | exact HB.out)); rintro e w6 ⟨v561, rfl, ho0, hi, hb, hk⟩; refine ⟨_, rfl, ?_⟩; replace BK554 := kq hk BK554 NB554_558; have HO562 := ak (Kd.R_lower ho0 (below_size (by repeat (first | (with_reducible first | exact HB.out | apply below_alloc | apply pw_below_drewN | apply below_drew1 | refine below_set ?_ (IsS158.ge HI558.out) | refine below_set ?_ GE554.out) | exact HB.out)))); replace HB := ak hb; replace HI558 := ak (hi); (try clear hb); (try clear hb2); (try clear hk); (try clear hi); (try clear ho0); have hnb7 := NB554_558.out; have hnc7 := NB558_554.out; obtain ⟨_, _, _, _, _, _, _, _, _, _⟩ := bc5 BK554; obtain ⟨Ao9, co9, eo9⟩ := Kd.R_slice HO562.out; subst eo9))
 refine bodyPost_ret (results_cell_row rfl _ _ gb554 38 #[.int .i64 t559, .slice Ao9 t560.length co9, .int .i64 t563, .int .i64 t564, .int .i64 t565] (0, 0) _ rfl (PX BK554) Try.underlying38 rfl KR) rfl ?_
 exact ⟨_, RT, RX (Rt HO562.out BK554) (fun _ hk => trivial), by repeat (first | (with_reducible first | exact HB.out | apply below_alloc | apply pw_below_drewN | apply below_drew1 | refine below_set ?_ (IsS158.ge HI558.out) | refine below_set ?_ GE554.out) | exact HB.out)⟩

/-! ### spec_DrawValueOfResource: function 34 -/
def spec_DrawValueOfResource.f (k : Nat) (l0 : List Int) : Option (Int × List Int × Int × Int × Int) := (spec_DrawIsResource.f k l0).bind fun bt569 => (some (bt569.1, bt569.2.1, bt569.2.2.1, bt569.2.2.2.1, bt569.2.2.2.2))
set_option maxHeartbeats 8000000 in
set_option maxRecDepth 100000 in
theorem spec_DrawValueOfResource.calls (k : Nat) (A0 : Option Addr) (c0 : Nat) (l0 : List Int) (r1 : Int) (r2 : List Int) (r3 : Int) (r4 : Int) (r5 : Int) (w : World) (hr0 : Kd.C (Kd.int .u8) w A0 l0.length l0) (hc0 : l0.length ≤ c0) (h : spec_DrawValueOfResource.f k l0 = some (r1, r2, r3, r4, r5)) :
  Calls Try.prog 34 #[.slice A0 l0.length c0] w fun e w' => ∃ v1_ : Value, e = .returned (.agg #[.int .i64 r1, v1_, .int .i64 r3, .int .i64 r4, .int .i64 r5]) ∧ Kd.R (Kd.int .i64) 3 w' w.heap.size (fun _ => True) v1_ r2 ∧ Below w.heap.size w w' := by
 have hu38 := Try.underlying38
 have HR0 := Aside0.mk hr0
 have HC0 := Aside0.mk hc0
 clear hr0 hc0
 have HB := ak (Below.refl w.heap.size w)
 have H : ((spec_DrawIsResource.f k l0).bind fun bt569 => (some (bt569.1, bt569.2.1, bt569.2.2.1, bt569.2.2.2.1, bt569.2.2.2.2))) = some (r1, r2, r3, r4, r5) := h
 clear h
 replace H := Option.bind_eq_some_iff.mp H
 obtain ⟨⟨t569, t570, t573, t574, t575⟩, A20, H⟩ := H
 replace H : (some (t569, t570, t573, t574, t575)) = some (r1, r2, r3, r4, r5) := H
 have A2 := Aside0.mk A20
 clear A20
 simp only [Option.some.injEq, Prod.mk.injEq] at H
 obtain ⟨rfl, rfl, rfl, rfl, rfl⟩ := H
 go_enter Try.func34, Try.ntmps34
 go_wp2_with (first | ((with_reducible refine gate_dst (N := 2) rfl ?_); refine bx_ (N := 2) #[.int .i64 0, .slice none 0 0, .int .i64 0, .int .i64 0, .int .i64 0] 38 ?_; intro gb568 hg w3 hbox hb; have BK568 := ak hbox; have GW568 := gy hg HB; have GE568 := gy hg HB; replace HB := bs HB hb; clear hb hbox hg) | ((with_reducible refine gate_callee (f := 94) rfl ?_); refine goesL_ (some 4) rfl rfl Try.func94 KR rfl #[.slice A0 l0.length c0] rfl AR ?_; (with_reducible refine (spec_DrawIsResource.calls k _ _ l0 t569 t570 t573 t574 t575 _ ?side1 ?side2 A2.out).mono ?_); (case side1 => exact CR (Kd.C_below HR0.out HB.out)); (case side2 => exact HC0.out); rintro e w4 ⟨v571, rfl, ho0, hb⟩; refine ⟨_, rfl, ?_⟩; have HO572 := Rn0 ho0 HB; replace BK568 := kf BK568 hb; replace HB := bs HB hb; (try clear hb); (try clear hb2); (try clear hk); (try clear hi); (try clear ho0); obtain ⟨_, _, _, _, _, _, _, _, _, _⟩ := bc5 BK568; obtain ⟨Ao6, co6, eo6⟩ := Kd.R_slice HO572.out; subst eo6))
 refine bodyPost_ret (results_cell_row rfl _ _ gb568 38 #[.int .i64 t569, .slice Ao6 t570.length co6, .int .i64 t573, .int .i64 t574, .int .i64 t575] (0, 0) _ rfl (PX BK568) Try.underlying38 rfl KR) rfl ?_
 exact ⟨_, RT, RX (Rt HO572.out BK568) (fun _ hk => trivial), PB⟩

end Go.Proofs.Ytgcamebeonodeaa.MFnVisits
