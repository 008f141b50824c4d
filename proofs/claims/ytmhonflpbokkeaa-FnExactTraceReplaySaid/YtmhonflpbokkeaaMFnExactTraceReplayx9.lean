-- Written by a program of this session out of the translation's own print. Not trusted: Lean checks it.
import Derived.Test.YtmhonflpbokkeaaShr2
import Derived.Test.YtmhonflpbokkeaaMFnExactTraceReplayx0
import Derived.Test.YtmhonflpbokkeaaMFnExactTraceReplayx8
namespace Go.Proofs.Ytmhonflpbokkeaa.MFnExactTraceReplay
open Go.RowKit Go.Proofs.YtmhonflpbokkeaaW.PrintWords Go.Proofs.YtmhonflpbokkeaaW.PrintLast Go.Proofs.YtmhonflpbokkeaaW.PrintMore
attribute [local go_sem] max2_int min2_int max_two min_two max_three min_three max_four min_four   -- for this text's walks alone
set_option linter.unusedVariables false
set_option maxHeartbeats 8000000
set_option maxRecDepth 100000
set_option linter.unusedSimpArgs false

/-! ### impl_isOp: function 117 -/
def impl_isOp.j0 : Nat → Int → Bool → Int → Int → Int → Int → Option (Bool)
  | 0, _, _, _, _, _, _ => none
  | k + 1, x8, x19, x308000, x308001, x308002, x308003 => if x19 = true then (if x308002 = 0 then (some (x308003 == 0)) else (some false)) else (if x8 = 5 then ((impl_at.f x308002 4).bind fun t311 => (if t311 = true then ((impl_at.f x308003 4).bind fun t312 => (some t312)) else (some false))) else (if x8 = 6 then ((impl_at.f x308002 4).bind fun t313 => (if t313 = true then (some (x308003 == 0)) else (some false))) else (if x8 = 7 then ((impl_InRange.f x308002 1 3).bind fun t314 => (if t314 = true then (some (x308003 == 0)) else (some false))) else (if x8 = 8 then ((impl_at.f x308002 3).bind fun t315 => (if t315 = true then (some (x308003 == 0)) else (some false))) else (if x8 = 9 then ((impl_at.f x308002 3).bind fun t316 => (if t316 = true then (some (x308003 == 0)) else (some false))) else (some false))))))
def impl_isOp.f (k : Nat) (a0_0 : Int) (a0_1 : Int) (a0_2 : Int) (a0_3 : Int) : Option (Bool) := (impl_at.f a0_1 4).bind fun t308 => (if t308 = true then (if a0_0 = 1 then ((impl_InRange.f a0_2 1 9).bind fun t309 => (if t309 = true then ((impl_InRange.f a0_3 0 99).bind fun t310 => (some t310)) else (some false))) else (if a0_0 = 2 then (impl_isOp.j0 k a0_0 (a0_0 == 2) a0_0 a0_1 a0_2 a0_3) else (if a0_0 = 3 then (impl_isOp.j0 k a0_0 (a0_0 == 3) a0_0 a0_1 a0_2 a0_3) else (impl_isOp.j0 k a0_0 (a0_0 == 4) a0_0 a0_1 a0_2 a0_3)))) else (some false))
theorem impl_isOp.calls (k : Nat) (a0_0 : Int) (a0_1 : Int) (a0_2 : Int) (a0_3 : Int) (r : Bool) (w : World) (h : impl_isOp.f k a0_0 a0_1 a0_2 a0_3 = some r) :
  Calls Try.prog 117 #[.agg #[.int .i64 a0_0, .int .i64 a0_1, .int .i64 a0_2, .int .i64 a0_3]] w fun e w' => e = .returned (.bool r) ∧ Below w.heap.size w w' := by
 have hu103 := Try.underlying103; have HB := ak (Below.refl w.heap.size w); have H := h; clear h; unfold impl_isOp.f at H; replace H := Option.bind_eq_some_iff.mp H; obtain ⟨t308, A20, H⟩ := H; (try dsimp only at H); have A2 := ak A20; clear A20
 by_cases c3 : t308 = true
 ·subst c3; rw [if_pos rfl] at H
  by_cases c4 : a0_0 = 1
  ·rw [if_pos c4] at H; have c4b0 : (a0_0 == 1) = true := beq_iff_eq.mpr c4; have c4b1 : (a0_0 != 1) = false := bne_eq_false_iff_eq.mpr c4; clear c4; replace H := Option.bind_eq_some_iff.mp H; obtain ⟨t309, A50, H⟩ := H; (try dsimp only at H); have A5 := ak A50; clear A50
   by_cases c6 : t309 = true
   ·subst c6; rw [if_pos rfl] at H; replace H := Option.bind_eq_some_iff.mp H; obtain ⟨t310, A70, H⟩ := H; (try dsimp only at H); have A7 := ak A70; clear A70; obtain rfl := Option.some.inj H; go_enter Try.func117, Try.ntmps117; go_wp2_with (first | ((with_reducible refine gate_dst (N := 1) rfl ?_); refine bx_ (N := 1) #[.int .i64 a0_0, .int .i64 a0_1, .int .i64 a0_2, .int .i64 a0_3] 103 ?_; intro gb307 hg w8 hbox hb; have BK307 := ak hbox; have GW307 := gy hg HB; have GE307 := gy hg HB; replace HB := bs HB hb; clear hb hbox hg; obtain ⟨hcz9_0, hcz9_1, hcz9_2, hcz9_3, hfz9_0, hfz9_1, hfz9_2, hfz9_3⟩ := bc4 BK307) | ((with_reducible refine gate_callee (f := 150) rfl ?_); refine goesL_ (some 5) rfl rfl Try.func150 KR rfl #[.int .i64 a0_1, .int .i64 4] rfl AR ?_; (with_reducible refine (impl_at.calls a0_1 4 true _ A2.out).mono ?_); rintro e w' ⟨rfl, ⟨nd, rfl⟩⟩; refine ⟨_, rfl, ?_⟩) | ((with_reducible refine gate_callee (f := 95) rfl ?_); refine goesL_ (some 13) rfl rfl Try.func95 KR rfl #[.int .i64 a0_2, .int .i64 1, .int .i64 9] rfl AR ?_; (with_reducible refine (impl_InRange.calls a0_2 1 9 true _ A5.out).mono ?_); rintro e w' ⟨rfl, ⟨nd, rfl⟩⟩; refine ⟨_, rfl, ?_⟩) | (go_at_call 95; (with_reducible refine (impl_InRange.calls a0_3 0 99 t310 _ A7.out).mono ?_); rintro e w' ⟨rfl, ⟨nd, rfl⟩⟩))
    go_ret
    exact ⟨RT, PB⟩
   ·replace c6 := Bool.eq_false_iff.mpr c6; subst c6; rw [if_neg (show ¬ (false = true) by decide)] at H; obtain rfl := Option.some.inj H; go_enter Try.func117, Try.ntmps117; go_wp2_with (first | ((with_reducible refine gate_dst (N := 1) rfl ?_); refine bx_ (N := 1) #[.int .i64 a0_0, .int .i64 a0_1, .int .i64 a0_2, .int .i64 a0_3] 103 ?_; intro gb307 hg w10 hbox hb; have BK307 := ak hbox; have GW307 := gy hg HB; have GE307 := gy hg HB; replace HB := bs HB hb; clear hb hbox hg; obtain ⟨hcz11_0, hcz11_1, hcz11_2, hcz11_3, hfz11_0, hfz11_1, hfz11_2, hfz11_3⟩ := bc4 BK307) | ((with_reducible refine gate_callee (f := 150) rfl ?_); refine goesL_ (some 5) rfl rfl Try.func150 KR rfl #[.int .i64 a0_1, .int .i64 4] rfl AR ?_; (with_reducible refine (impl_at.calls a0_1 4 true _ A2.out).mono ?_); rintro e w' ⟨rfl, ⟨nd, rfl⟩⟩; refine ⟨_, rfl, ?_⟩) | ((with_reducible refine gate_callee (f := 95) rfl ?_); refine goesL_ (some 13) rfl rfl Try.func95 KR rfl #[.int .i64 a0_2, .int .i64 1, .int .i64 9] rfl AR ?_; (with_reducible refine (impl_InRange.calls a0_2 1 9 false _ A5.out).mono ?_); rintro e w' ⟨rfl, ⟨nd, rfl⟩⟩; refine ⟨_, rfl, ?_⟩))
    go_ret
    exact ⟨RT, PB⟩
  ·rw [if_neg c4] at H; have c4b0 : (a0_0 == 1) = false := beq_eq_false_iff_ne.mpr c4; have c4b1 : (a0_0 != 1) = true := bne_iff_ne.mpr c4; have HC12 := ak H; clear H; go_enter Try.func117, Try.ntmps117
   go_upto_if 19 with (first | ((with_reducible refine gate_dst (N := 1) rfl ?_); refine bx_ (N := 1) #[.int .i64 a0_0, .int .i64 a0_1, .int .i64 a0_2, .int .i64 a0_3] 103 ?_; intro gb307 hg w13 hbox hb; have BK307 := ak hbox; have GW307 := gy hg HB; have GE307 := gy hg HB; replace HB := bs HB hb; clear hb hbox hg; obtain ⟨hcz14_0, hcz14_1, hcz14_2, hcz14_3, hfz14_0, hfz14_1, hfz14_2, hfz14_3⟩ := bc4 BK307) | ((with_reducible refine gate_callee (f := 150) rfl ?_); refine goesL_ (some 5) rfl rfl Try.func150 KR rfl #[.int .i64 a0_1, .int .i64 4] rfl AR ?_; (with_reducible refine (impl_at.calls a0_1 4 true _ A2.out).mono ?_); rintro e w' ⟨rfl, ⟨nd, rfl⟩⟩; refine ⟨_, rfl, ?_⟩))
   (try simp only [Act.put, List.setIfInBounds_toArray, List.set_cons_zero, List.set_cons_succ])
   go_cut [19] (fun v19 wc => ∃ (kq : Nat) (x19_11 : Bool), v19 = .bool x19_11 ∧ Aside0 (impl_isOp.j0 kq a0_0 x19_11 a0_0 a0_1 a0_2 a0_3 = some r) ∧ Aside0 (kq ≤ k) ∧ Aside0 (wc.heap[gb307]? = some (.cells #[.int .i64 a0_0, .int .i64 a0_1, .int .i64 a0_2, .int .i64 a0_3] 103 (0, 0))) ∧ Aside0 (Below w.heap.size w wc))
   case first =>
    have H := HC12.out; clear HC12
    by_cases c15 : a0_0 = 2
    ·rw [if_pos c15] at H; have c15b0 : (a0_0 == 2) = true := beq_iff_eq.mpr c15; have c15b1 : (a0_0 != 2) = false := bne_eq_false_iff_eq.mpr c15; clear c15; (first | rw [c15b0] | (simp only [i64_w, i32_w]; rw [c15b0]) | skip); have H' := ak H; clear H; go_wp2
     go_meet
     case rel => exact ⟨_, ((a0_0 == 2)), (by first | rfl | (simp; done) | (simp [*]; done)), H', ⟨by first | omega | exact Nat.le_refl _⟩, ⟨PK BK307⟩, ⟨PB⟩⟩
    ·rw [if_neg c15] at H; have c15b0 : (a0_0 == 2) = false := beq_eq_false_iff_ne.mpr c15; have c15b1 : (a0_0 != 2) = true := bne_iff_ne.mpr c15; (first | rw [c15b0] | (simp only [i64_w, i32_w]; rw [c15b0]) | skip)
     by_cases c16 : a0_0 = 3
     ·rw [if_pos c16] at H; have c16b0 : (a0_0 == 3) = true := beq_iff_eq.mpr c16; have c16b1 : (a0_0 != 3) = false := bne_eq_false_iff_eq.mpr c16; clear c16; have H' := ak H; clear H; go_wp2
      go_meet
      case rel => exact ⟨_, ((a0_0 == 3)), (by first | rfl | (simp; done) | (simp [*]; done)), H', ⟨by first | omega | exact Nat.le_refl _⟩, ⟨PK BK307⟩, ⟨PB⟩⟩
     ·rw [if_neg c16] at H; have c16b0 : (a0_0 == 3) = false := beq_eq_false_iff_ne.mpr c16; have c16b1 : (a0_0 != 3) = true := bne_iff_ne.mpr c16; have H' := ak H; clear H; go_wp2
      go_meet
      case rel => exact ⟨_, ((a0_0 == 4)), (by first | rfl | (simp; done) | (simp [*]; done)), H', ⟨by first | omega | exact Nat.le_refl _⟩, ⟨PK BK307⟩, ⟨PB⟩⟩
   case rest =>
    clear HC12; (try clear c1); (try clear p2); (try clear c3); (try clear c4); (try clear c4b0); (try clear c4b1); (try clear c6); (try clear c9); (try clear c11); (try clear c15); (try clear c15b0); (try clear c15b1); (try clear c16); (try clear c16b0); (try clear c16b1); (try clear hcz11_0); (try clear hcz11_1); (try clear hcz11_2); (try clear hcz11_3); (try clear hcz14_0); (try clear hcz14_1); (try clear hcz14_2); (try clear hcz14_3); (try clear hcz9_0); (try clear hcz9_1); (try clear hcz9_2); (try clear hcz9_3); (try clear hfz11_0); (try clear hfz11_1); (try clear hfz11_2); (try clear hfz11_3); (try clear hfz14_0); (try clear hfz14_1); (try clear hfz14_2); (try clear hfz14_3); (try clear hfz9_0); (try clear hfz9_1); (try clear hfz9_2); (try clear hfz9_3); obtain ⟨kq, x19_11, rfl, HA, HJ11, BK307, HB⟩ := hcut
    cases kq with
    | zero => exact absurd HA.out (by simp [impl_isOp.j0])
    | succ kj11 =>
     have H := HA.out; clear HA; simp only [impl_isOp.j0] at H
     by_cases c17 : x19_11 = true
     ·subst c17; rw [if_pos rfl] at H
      by_cases c18 : a0_2 = 0
      ·rw [if_pos c18] at H; have c18b0 : (a0_2 == 0) = true := beq_iff_eq.mpr c18; have c18b1 : (a0_2 != 0) = false := bne_eq_false_iff_eq.mpr c18; clear c18; obtain rfl := Option.some.inj H; obtain ⟨_, _, _, _, _, _, _, _⟩ := bc4 BK307; go_wp2
       go_ret
       exact ⟨RT, PB⟩
      ·rw [if_neg c18] at H; have c18b0 : (a0_2 == 0) = false := beq_eq_false_iff_ne.mpr c18; have c18b1 : (a0_2 != 0) = true := bne_iff_ne.mpr c18; obtain rfl := Option.some.inj H; obtain ⟨_, _, _, _, _, _, _, _⟩ := bc4 BK307; go_wp2
       go_ret
       exact ⟨RT, PB⟩
     ·replace c17 := Bool.eq_false_iff.mpr c17; subst c17; rw [if_neg (show ¬ (false = true) by decide)] at H
      by_cases c21 : a0_0 = 5
      ·rw [if_pos c21] at H; have c21b0 : (a0_0 == 5) = true := beq_iff_eq.mpr c21; have c21b1 : (a0_0 != 5) = false := bne_eq_false_iff_eq.mpr c21; clear c21; replace H := Option.bind_eq_some_iff.mp H; obtain ⟨t311, A220, H⟩ := H; (try dsimp only at H); have A22 := ak A220; clear A220
       by_cases c23 : t311 = true
       ·subst c23; rw [if_pos rfl] at H; replace H := Option.bind_eq_some_iff.mp H; obtain ⟨t312, A240, H⟩ := H; (try dsimp only at H); have A24 := ak A240; clear A240; obtain rfl := Option.some.inj H; obtain ⟨_, _, _, _, _, _, _, _⟩ := bc4 BK307; go_wp2_with (first | ((with_reducible refine gate_callee (f := 150) rfl ?_); refine goesL_ (some 35) rfl rfl Try.func150 KR rfl #[.int .i64 a0_2, .int .i64 4] rfl AR ?_; (with_reducible refine (impl_at.calls a0_2 4 true _ A22.out).mono ?_); rintro e w' ⟨rfl, ⟨nd, rfl⟩⟩; refine ⟨_, rfl, ?_⟩) | (go_at_call 150; (with_reducible refine (impl_at.calls a0_3 4 t312 _ A24.out).mono ?_); rintro e w' ⟨rfl, ⟨nd, rfl⟩⟩))
        go_ret
        exact ⟨RT, PB⟩
       ·replace c23 := Bool.eq_false_iff.mpr c23; subst c23; rw [if_neg (show ¬ (false = true) by decide)] at H; obtain rfl := Option.some.inj H; obtain ⟨_, _, _, _, _, _, _, _⟩ := bc4 BK307; go_wp2_with (first | ((with_reducible refine gate_callee (f := 150) rfl ?_); refine goesL_ (some 35) rfl rfl Try.func150 KR rfl #[.int .i64 a0_2, .int .i64 4] rfl AR ?_; (with_reducible refine (impl_at.calls a0_2 4 false _ A22.out).mono ?_); rintro e w' ⟨rfl, ⟨nd, rfl⟩⟩; refine ⟨_, rfl, ?_⟩))
        go_ret
        exact ⟨RT, PB⟩
      ·rw [if_neg c21] at H; have c21b0 : (a0_0 == 5) = false := beq_eq_false_iff_ne.mpr c21; have c21b1 : (a0_0 != 5) = true := bne_iff_ne.mpr c21
       by_cases c27 : a0_0 = 6
       ·rw [if_pos c27] at H; have c27b0 : (a0_0 == 6) = true := beq_iff_eq.mpr c27; have c27b1 : (a0_0 != 6) = false := bne_eq_false_iff_eq.mpr c27; clear c27; replace H := Option.bind_eq_some_iff.mp H; obtain ⟨t313, A280, H⟩ := H; (try dsimp only at H); have A28 := ak A280; clear A280
        by_cases c29 : t313 = true
        ·subst c29; rw [if_pos rfl] at H; obtain rfl := Option.some.inj H; obtain ⟨_, _, _, _, _, _, _, _⟩ := bc4 BK307; go_wp2_with (first | ((with_reducible refine gate_callee (f := 150) rfl ?_); refine goesL_ (some 45) rfl rfl Try.func150 KR rfl #[.int .i64 a0_2, .int .i64 4] rfl AR ?_; (with_reducible refine (impl_at.calls a0_2 4 true _ A28.out).mono ?_); rintro e w' ⟨rfl, ⟨nd, rfl⟩⟩; refine ⟨_, rfl, ?_⟩))
         go_ret
         exact ⟨RT, PB⟩
        ·replace c29 := Bool.eq_false_iff.mpr c29; subst c29; rw [if_neg (show ¬ (false = true) by decide)] at H; obtain rfl := Option.some.inj H; obtain ⟨_, _, _, _, _, _, _, _⟩ := bc4 BK307; go_wp2_with (first | ((with_reducible refine gate_callee (f := 150) rfl ?_); refine goesL_ (some 45) rfl rfl Try.func150 KR rfl #[.int .i64 a0_2, .int .i64 4] rfl AR ?_; (with_reducible refine (impl_at.calls a0_2 4 false _ A28.out).mono ?_); rintro e w' ⟨rfl, ⟨nd, rfl⟩⟩; refine ⟨_, rfl, ?_⟩))
         go_ret
         exact ⟨RT, PB⟩
       ·rw [if_neg c27] at H; have c27b0 : (a0_0 == 6) = false := beq_eq_false_iff_ne.mpr c27; have c27b1 : (a0_0 != 6) = true := bne_iff_ne.mpr c27
        by_cases c32 : a0_0 = 7
        ·rw [if_pos c32] at H; have c32b0 : (a0_0 == 7) = true := beq_iff_eq.mpr c32; have c32b1 : (a0_0 != 7) = false := bne_eq_false_iff_eq.mpr c32; clear c32; replace H := Option.bind_eq_some_iff.mp H; obtain ⟨t314, A330, H⟩ := H; (try dsimp only at H); have A33 := ak A330; clear A330
         by_cases c34 : t314 = true
         ·subst c34; rw [if_pos rfl] at H; obtain rfl := Option.some.inj H; obtain ⟨_, _, _, _, _, _, _, _⟩ := bc4 BK307; go_wp2_with (first | ((with_reducible refine gate_callee (f := 95) rfl ?_); refine goesL_ (some 55) rfl rfl Try.func95 KR rfl #[.int .i64 a0_2, .int .i64 1, .int .i64 3] rfl AR ?_; (with_reducible refine (impl_InRange.calls a0_2 1 3 true _ A33.out).mono ?_); rintro e w' ⟨rfl, ⟨nd, rfl⟩⟩; refine ⟨_, rfl, ?_⟩))
          go_ret
          exact ⟨RT, PB⟩
         ·replace c34 := Bool.eq_false_iff.mpr c34; subst c34; rw [if_neg (show ¬ (false = true) by decide)] at H; obtain rfl := Option.some.inj H; obtain ⟨_, _, _, _, _, _, _, _⟩ := bc4 BK307; go_wp2_with (first | ((with_reducible refine gate_callee (f := 95) rfl ?_); refine goesL_ (some 55) rfl rfl Try.func95 KR rfl #[.int .i64 a0_2, .int .i64 1, .int .i64 3] rfl AR ?_; (with_reducible refine (impl_InRange.calls a0_2 1 3 false _ A33.out).mono ?_); rintro e w' ⟨rfl, ⟨nd, rfl⟩⟩; refine ⟨_, rfl, ?_⟩))
          go_ret
          exact ⟨RT, PB⟩
        ·rw [if_neg c32] at H; have c32b0 : (a0_0 == 7) = false := beq_eq_false_iff_ne.mpr c32; have c32b1 : (a0_0 != 7) = true := bne_iff_ne.mpr c32
         by_cases c37 : a0_0 = 8
         ·rw [if_pos c37] at H; have c37b0 : (a0_0 == 8) = true := beq_iff_eq.mpr c37; have c37b1 : (a0_0 != 8) = false := bne_eq_false_iff_eq.mpr c37; clear c37; replace H := Option.bind_eq_some_iff.mp H; obtain ⟨t315, A380, H⟩ := H; (try dsimp only at H); have A38 := ak A380; clear A380
          by_cases c39 : t315 = true
          ·subst c39; rw [if_pos rfl] at H; obtain rfl := Option.some.inj H; obtain ⟨_, _, _, _, _, _, _, _⟩ := bc4 BK307; go_wp2_with (first | ((with_reducible refine gate_callee (f := 150) rfl ?_); refine goesL_ (some 66) rfl rfl Try.func150 KR rfl #[.int .i64 a0_2, .int .i64 3] rfl AR ?_; (with_reducible refine (impl_at.calls a0_2 3 true _ A38.out).mono ?_); rintro e w' ⟨rfl, ⟨nd, rfl⟩⟩; refine ⟨_, rfl, ?_⟩))
           go_ret
           exact ⟨RT, PB⟩
          ·replace c39 := Bool.eq_false_iff.mpr c39; subst c39; rw [if_neg (show ¬ (false = true) by decide)] at H; obtain rfl := Option.some.inj H; obtain ⟨_, _, _, _, _, _, _, _⟩ := bc4 BK307; go_wp2_with (first | ((with_reducible refine gate_callee (f := 150) rfl ?_); refine goesL_ (some 66) rfl rfl Try.func150 KR rfl #[.int .i64 a0_2, .int .i64 3] rfl AR ?_; (with_reducible refine (impl_at.calls a0_2 3 false _ A38.out).mono ?_); rintro e w' ⟨rfl, ⟨nd, rfl⟩⟩; refine ⟨_, rfl, ?_⟩))
           go_ret
           exact ⟨RT, PB⟩
         ·rw [if_neg c37] at H; have c37b0 : (a0_0 == 8) = false := beq_eq_false_iff_ne.mpr c37; have c37b1 : (a0_0 != 8) = true := bne_iff_ne.mpr c37
          by_cases c42 : a0_0 = 9
          ·rw [if_pos c42] at H; have c42b0 : (a0_0 == 9) = true := beq_iff_eq.mpr c42; have c42b1 : (a0_0 != 9) = false := bne_eq_false_iff_eq.mpr c42; clear c42; replace H := Option.bind_eq_some_iff.mp H; obtain ⟨t316, A430, H⟩ := H; (try dsimp only at H); have A43 := ak A430; clear A430
           by_cases c44 : t316 = true
           ·subst c44; rw [if_pos rfl] at H; obtain rfl := Option.some.inj H; obtain ⟨_, _, _, _, _, _, _, _⟩ := bc4 BK307; go_wp2_with (first | ((with_reducible refine gate_callee (f := 150) rfl ?_); refine goesL_ (some 66) rfl rfl Try.func150 KR rfl #[.int .i64 a0_2, .int .i64 3] rfl AR ?_; (with_reducible refine (impl_at.calls a0_2 3 true _ A43.out).mono ?_); rintro e w' ⟨rfl, ⟨nd, rfl⟩⟩; refine ⟨_, rfl, ?_⟩))
            go_ret
            exact ⟨RT, PB⟩
           ·replace c44 := Bool.eq_false_iff.mpr c44; subst c44; rw [if_neg (show ¬ (false = true) by decide)] at H; obtain rfl := Option.some.inj H; obtain ⟨_, _, _, _, _, _, _, _⟩ := bc4 BK307; go_wp2_with (first | ((with_reducible refine gate_callee (f := 150) rfl ?_); refine goesL_ (some 66) rfl rfl Try.func150 KR rfl #[.int .i64 a0_2, .int .i64 3] rfl AR ?_; (with_reducible refine (impl_at.calls a0_2 3 false _ A43.out).mono ?_); rintro e w' ⟨rfl, ⟨nd, rfl⟩⟩; refine ⟨_, rfl, ?_⟩))
            go_ret
            exact ⟨RT, PB⟩
          ·rw [if_neg c42] at H; have c42b0 : (a0_0 == 9) = false := beq_eq_false_iff_ne.mpr c42; have c42b1 : (a0_0 != 9) = true := bne_iff_ne.mpr c42; obtain rfl := Option.some.inj H; go_wp2
           go_ret
           exact ⟨RT, PB⟩
 ·replace c3 := Bool.eq_false_iff.mpr c3; subst c3; rw [if_neg (show ¬ (false = true) by decide)] at H; obtain rfl := Option.some.inj H; go_enter Try.func117, Try.ntmps117; go_wp2_with (first | ((with_reducible refine gate_dst (N := 1) rfl ?_); refine bx_ (N := 1) #[.int .i64 a0_0, .int .i64 a0_1, .int .i64 a0_2, .int .i64 a0_3] 103 ?_; intro gb307 hg w47 hbox hb; have BK307 := ak hbox; have GW307 := gy hg HB; have GE307 := gy hg HB; replace HB := bs HB hb; clear hb hbox hg; obtain ⟨_, _, _, _, _, _, _, _⟩ := bc4 BK307) | ((with_reducible refine gate_callee (f := 150) rfl ?_); refine goesL_ (some 5) rfl rfl Try.func150 KR rfl #[.int .i64 a0_1, .int .i64 4] rfl AR ?_; (with_reducible refine (impl_at.calls a0_1 4 false _ A2.out).mono ?_); rintro e w' ⟨rfl, ⟨nd, rfl⟩⟩; refine ⟨_, rfl, ?_⟩))
  go_ret
  exact ⟨RT, PB⟩

/-! ### impl_IsScript_lit1: function 116 -/
def impl_IsScript_lit1.f (k : Nat) (a0_0 : Int) (a0_1 : Int) (a0_2 : Int) (a0_3 : Int) : Option (Bool) := (impl_isOp.f k a0_0 a0_1 a0_2 a0_3).bind fun t318 => (some (!t318))
theorem impl_IsScript_lit1.calls (k : Nat) (a0_0 : Int) (a0_1 : Int) (a0_2 : Int) (a0_3 : Int) (r : Bool) (w : World) (h : impl_IsScript_lit1.f k a0_0 a0_1 a0_2 a0_3 = some r) :
  Calls Try.prog 116 #[.agg #[.int .i64 a0_0, .int .i64 a0_1, .int .i64 a0_2, .int .i64 a0_3]] w fun e w' => e = .returned (.bool r) ∧ Below w.heap.size w w' := by
 have hu103 := Try.underlying103; have HB := ak (Below.refl w.heap.size w); have H := h; clear h; unfold impl_IsScript_lit1.f at H; replace H := Option.bind_eq_some_iff.mp H; obtain ⟨t318, A20, H⟩ := H; (try dsimp only at H); have A2 := ak A20; clear A20; obtain rfl := Option.some.inj H; go_enter Try.func116, Try.ntmps116; go_wp2_with (first | ((with_reducible refine gate_dst (N := 1) rfl ?_); refine bx_ (N := 1) #[.int .i64 a0_0, .int .i64 a0_1, .int .i64 a0_2, .int .i64 a0_3] 103 ?_; intro gb317 hg w3 hbox hb; have BK317 := ak hbox; have GW317 := gy hg HB; have GE317 := gy hg HB; replace HB := bs HB hb; clear hb hbox hg; obtain ⟨_, _, _, _, _, _, _, _⟩ := bc4 BK317) | ((with_reducible refine gate_callee (f := 117) rfl ?_); refine goesL_ (some 4) rfl rfl Try.func117 KR rfl #[.agg #[.int .i64 a0_0, .int .i64 a0_1, .int .i64 a0_2, .int .i64 a0_3]] rfl AR ?_; (with_reducible refine (impl_isOp.calls k a0_0 a0_1 a0_2 a0_3 t318 _ A2.out).mono ?_); rintro e w5 ⟨rfl, hb⟩; refine ⟨_, rfl, ?_⟩; replace BK317 := kf BK317 hb; replace HB := bs HB hb; clear hb))
 go_ret
 exact ⟨RT, PB⟩

/-! ### slices_IndexFunc_116: function 163 -/
def slices_IndexFunc_116.l0 : Nat → List (S103) → Int → Int → Option (Int)
  | 0, _, _, _ => none
  | k + 1, x0, x7, x8 => if x8 < x7 then (if 0 ≤ x8 then (if x8 < (x0.length : Int) then ((impl_IsScript_lit1.f k ((rd_T103 x0 x8).f0) ((rd_T103 x0 x8).f1) ((rd_T103 x0 x8).f2) ((rd_T103 x0 x8).f3)).bind fun t320 => (if t320 = true then (some x8) else (slices_IndexFunc_116.l0 k x0 x7 (wrap64 (x8 + 1))))) else (none)) else (none)) else (some (-1))
def slices_IndexFunc_116.f (k : Nat) (l0 : List (S103)) (a1 : Int) : Option (Int) := slices_IndexFunc_116.l0 k l0 (l0.length : Int) 0
theorem slices_IndexFunc_116.calls (k : Nat) (A0 : Option Addr) (c0 : Nat) (l0 : List (S103)) (a1 : Int) (r : Int) (w : World) (hr0 : Kd.C k103 w A0 l0.length l0) (hc0 : l0.length ≤ c0) (h : slices_IndexFunc_116.f k l0 a1 = some r) :
  Calls Try.prog 163 #[.slice A0 l0.length c0, .func (.func 116) #[] #[]] w fun e w' => e = .returned (.int .i64 r) ∧ Below w.heap.size w w' := by
 have hu103 := Try.underlying103; have HR0 := ak hr0; have HC0 := ak hc0; clear hr0 hc0; have HB := ak (Below.refl w.heap.size w); have H := h; clear h; unfold slices_IndexFunc_116.f at H; have H' := ak H; clear H; go_enter Try.func163, Try.ntmps163; go_wp2
 go_loopg [8] k (fun kq v8 w' => ∃ (x8_1 : Int), v8 = .int .i64 x8_1 ∧ Aside0 (slices_IndexFunc_116.l0 kq l0 (l0.length : Int) x8_1 = some r) ∧ Aside0 (kq ≤ k) ∧ Aside0 (Below w.heap.size w w'))
 case atStart => exact ⟨(0), (by first | rfl | (simp; done) | (simp [*]; done)), H', ⟨Nat.le_refl _⟩, ⟨PB⟩⟩
 case round =>
  clear H'
  try clear p2
  obtain ⟨x8_1, rfl, HA, HK1, HB⟩ := hrel
  cases gk with
  | zero => exact absurd HA.out (by simp [slices_IndexFunc_116.l0])
  | succ k1 =>
   have H := HA.out; clear HA; simp only [slices_IndexFunc_116.l0] at H
   by_cases c3 : x8_1 < (l0.length : Int)
   ·rw [if_pos c3] at H; have c3b0 : decide (x8_1 < (l0.length : Int)) = true := decide_eq_true c3; clear c3
    by_cases c4 : 0 ≤ x8_1
    ·rw [if_pos c4] at H; have c4b0 : decide (0 ≤ x8_1) = true := decide_eq_true c4; clear c4
     by_cases c5 : x8_1 < (l0.length : Int)
     ·rw [if_pos c5] at H; have c5b0 : decide (x8_1 < (l0.length : Int)) = true := decide_eq_true c5; clear c5; replace H := Option.bind_eq_some_iff.mp H; obtain ⟨t320, A60, H⟩ := H; (try dsimp only at H); have A6 := ak A60; clear A60
      by_cases c7 : t320 = true
      ·subst c7; rw [if_pos rfl] at H; obtain rfl := Option.some.inj H; have p319 : 0 ≤ (x8_1 : Int) := od; have q319 : x8_1 < (l0.length : Int) := od; obtain ⟨ad319, e319, hx319_0, hx319_1, hx319_2, hx319_3⟩ := at_T103 HR0.out x8_1 p319 q319; cases e319; replace hx319_0 := hx_ HB hx319_0; replace hx319_1 := hx_ HB hx319_1; replace hx319_2 := hx_ HB hx319_2; replace hx319_3 := hx_ HB hx319_3; replace p319 := eq_true p319; replace q319 := eq_true q319; go_wp2_with (first | ((with_reducible refine gate_calleeV (n := 11) rfl ?_); refine goesLV_ (some 16) rfl rfl Try.func116 KR rfl #[.agg #[.int .i64 ((rd_T103 l0 x8_1).f0), .int .i64 ((rd_T103 l0 x8_1).f1), .int .i64 ((rd_T103 l0 x8_1).f2), .int .i64 ((rd_T103 l0 x8_1).f3)]] rfl AR ?_; (with_reducible refine (impl_IsScript_lit1.calls k1 ((rd_T103 l0 x8_1).f0) ((rd_T103 l0 x8_1).f1) ((rd_T103 l0 x8_1).f2) ((rd_T103 l0 x8_1).f3) true _ A6.out).mono ?_); rintro e w8 ⟨rfl, hb⟩; refine ⟨_, rfl, ?_⟩; replace HB := bs HB hb; clear hb))
       go_ret
       exact ⟨RT, PB⟩
      ·replace c7 := Bool.eq_false_iff.mpr c7; subst c7; rw [if_neg (show ¬ (false = true) by decide)] at H; have H' := ak H; clear H; have p319 : 0 ≤ (x8_1 : Int) := od; have q319 : x8_1 < (l0.length : Int) := od; obtain ⟨ad319, e319, hx319_0, hx319_1, hx319_2, hx319_3⟩ := at_T103 HR0.out x8_1 p319 q319; cases e319; replace hx319_0 := hx_ HB hx319_0; replace hx319_1 := hx_ HB hx319_1; replace hx319_2 := hx_ HB hx319_2; replace hx319_3 := hx_ HB hx319_3; replace p319 := eq_true p319; replace q319 := eq_true q319; go_wp2_with (first | ((with_reducible refine gate_calleeV (n := 11) rfl ?_); refine goesLV_ (some 16) rfl rfl Try.func116 KR rfl #[.agg #[.int .i64 ((rd_T103 l0 x8_1).f0), .int .i64 ((rd_T103 l0 x8_1).f1), .int .i64 ((rd_T103 l0 x8_1).f2), .int .i64 ((rd_T103 l0 x8_1).f3)]] rfl AR ?_; (with_reducible refine (impl_IsScript_lit1.calls k1 ((rd_T103 l0 x8_1).f0) ((rd_T103 l0 x8_1).f1) ((rd_T103 l0 x8_1).f2) ((rd_T103 l0 x8_1).f3) false _ A6.out).mono ?_); rintro e w9 ⟨rfl, hb⟩; refine ⟨_, rfl, ?_⟩; replace HB := bs HB hb; clear hb))
       go_roundg k1
       case measure => have := HK1.out; omega
       case rel => exact ⟨(wrap64 (x8_1 + 1)), (by first | rfl | (simp; done) | (simp [*]; done)), H', ⟨by have := HK1.out; omega⟩, ⟨PB⟩⟩
     ·rw [if_neg c5] at H; exact absurd H (by simp)
    ·rw [if_neg c4] at H; exact absurd H (by simp)
   ·rw [if_neg c3] at H; have c3b0 : decide (x8_1 < (l0.length : Int)) = false := decide_eq_false c3; clear c3; obtain rfl := Option.some.inj H; go_wp2
    go_ret
    exact ⟨RT, PB⟩

/-! ### slices_ContainsFunc_116: function 115 -/
def slices_ContainsFunc_116.f (k : Nat) (l0 : List (S103)) (a1 : Int) : Option (Bool) := (slices_IndexFunc_116.f k l0 a1).bind fun t321 => (some (decide (t321 ≥ 0)))
theorem slices_ContainsFunc_116.calls (k : Nat) (A0 : Option Addr) (c0 : Nat) (l0 : List (S103)) (a1 : Int) (r : Bool) (w : World) (hr0 : Kd.C k103 w A0 l0.length l0) (hc0 : l0.length ≤ c0) (h : slices_ContainsFunc_116.f k l0 a1 = some r) :
  Calls Try.prog 115 #[.slice A0 l0.length c0, .func (.func 116) #[] #[]] w fun e w' => e = .returned (.bool r) ∧ Below w.heap.size w w' := by
 have HR0 := ak hr0; have HC0 := ak hc0; clear hr0 hc0; have HB := ak (Below.refl w.heap.size w); have H := h; clear h; unfold slices_ContainsFunc_116.f at H; replace H := Option.bind_eq_some_iff.mp H; obtain ⟨t321, A30, H⟩ := H; (try dsimp only at H); have A3 := ak A30; clear A30; obtain rfl := Option.some.inj H; go_enter Try.func115, Try.ntmps115; go_wp2_with (first | ((with_reducible refine gate_callee (f := 163) rfl ?_); refine goesL_ (some 7) rfl rfl Try.func163 KR rfl #[.slice A0 l0.length c0, .func (.func 116) #[] #[]] rfl AR ?_; (with_reducible refine (slices_IndexFunc_116.calls k _ _ l0 a1 t321 _ ?side1 ?side2 A3.out).mono ?_); (case side1 => exact CR (HR0.out)); (case side2 => exact HC0.out); rintro e w4 ⟨rfl, hb⟩; refine ⟨_, rfl, ?_⟩; replace HB := bs HB hb; clear hb))
 go_ret
 exact ⟨RT, PB⟩

/-! ### impl_IsScript: function 46 -/
def impl_IsScript.f (k : Nat) (l0 : List (S103)) : Option (Bool) := if (l0.length : Int) ≤ 16 then ((slices_ContainsFunc_116.f k l0 90000116).bind fun t322 => (some (!t322))) else (some false)
theorem impl_IsScript.calls (k : Nat) (A0 : Option Addr) (c0 : Nat) (l0 : List (S103)) (r : Bool) (w : World) (hr0 : Kd.C k103 w A0 l0.length l0) (hc0 : l0.length ≤ c0) (h : impl_IsScript.f k l0 = some r) :
  Calls Try.prog 46 #[.slice A0 l0.length c0] w fun e w' => e = .returned (.bool r) ∧ Below w.heap.size w w' := by
 have HR0 := ak hr0; have HC0 := ak hc0; clear hr0 hc0; have HB := ak (Below.refl w.heap.size w); have H := h; clear h; unfold impl_IsScript.f at H
 by_cases c2 : (l0.length : Int) ≤ 16
 ·rw [if_pos c2] at H; have c2b0 : decide ((l0.length : Int) ≤ 16) = true := decide_eq_true c2; have c2b1 : decide (l0.length ≤ 16) = true := decide_eq_true (by omega); clear c2; replace H := Option.bind_eq_some_iff.mp H; obtain ⟨t322, A30, H⟩ := H; (try dsimp only at H); have A3 := ak A30; clear A30; obtain rfl := Option.some.inj H; go_enter Try.func46, Try.ntmps46; go_wp2_with (first | (go_at_call 115; (with_reducible refine (slices_ContainsFunc_116.calls k _ _ l0 90000116 t322 _ ?side1 ?side2 A3.out).mono ?_); (case side1 => exact CR (HR0.out)); (case side2 => exact HC0.out); rintro e w4 ⟨rfl, hb⟩; replace HB := bs HB hb; clear hb))
  go_ret
  exact ⟨RT, PB⟩
 ·rw [if_neg c2] at H; have c2b0 : decide ((l0.length : Int) ≤ 16) = false := decide_eq_false c2; have c2b1 : decide (l0.length ≤ 16) = false := decide_eq_false (by omega); clear c2; obtain rfl := Option.some.inj H; go_enter Try.func46, Try.ntmps46; go_wp2
  go_ret
  exact ⟨RT, PB⟩

end Go.Proofs.Ytmhonflpbokkeaa.MFnExactTraceReplay
