-- Written by a program of this session out of the translation's own print. Not trusted: Lean checks it.
import Derived.Test.YtgcamebeonodeaaShr2
import Derived.Test.YtgcamebeonodeaaMFnVisitsx0
import Derived.Test.YtgcamebeonodeaaMFnVisitsx2
import Derived.Test.YtgcamebeonodeaaMFnVisitsx4
namespace Go.Proofs.Ytgcamebeonodeaa.MFnVisits
open Go.RowKit Go.Proofs.YtgcamebeonodeaaW.PrintWords Go.Proofs.YtgcamebeonodeaaW.PrintLast Go.Proofs.YtgcamebeonodeaaW.PrintMore
attribute [local go_sem] max2_int min2_int max_two min_two max_three min_three max_four min_four   -- for this text's walks alone
set_option linter.unusedVariables false
set_option linter.unusedSimpArgs false

/-! ### spec_l9Ask: function 137 -/
def spec_l9Ask.j0 : Nat → List (S169) → Bool → List Int → Int → Int → Option (Int × Int × Int × Int × Int)
  | 0, _, _, _, _, _ => none
  | k + 1, x1, x11, x1000, x1001, x1002 => if x11 = true then ((spec_l1Below.f x1000 x1001 x1002 (x1.length : Int)).bind fun bt355 => (if 0 ≤ bt355.1 then (if bt355.1 < (x1.length : Int) then (some ((rd_T169 x1 bt355.1).f0.f0, (rd_T169 x1 bt355.1).f0.f1, (rd_T169 x1 bt355.1).f0.f2, bt355.2.1, bt355.2.2)) else (none)) else (none))) else ((spec_l4Draw.f x1000 x1001 x1002).bind fun bt359 => (some (bt359.1, bt359.2.1, bt359.2.2.1, bt359.2.2.2.1, bt359.2.2.2.2)))
def spec_l9Ask.f (k : Nat) (s0_0 : List Int) (s0_1 : Int) (s0_2 : Int) (l1 : List (S169)) : Option (Int × Int × Int × Int × Int) := if (l1.length : Int) > 0 then ((spec_l1Once.f s0_0 s0_1 s0_2 2).bind fun bt352 => (spec_l9Ask.j0 k l1 bt352.1 s0_0 bt352.2.1 bt352.2.2)) else (spec_l9Ask.j0 k l1 false s0_0 s0_1 s0_2)
set_option maxHeartbeats 8000000 in
set_option maxRecDepth 100000 in
theorem spec_l9Ask.calls (k : Nat) (g : Nat) (s0_0 : List Int) (s0_1 : Int) (s0_2 : Int) (A1 : Option Addr) (c1 : Nat) (l1 : List (S169)) (r1 : Int) (r2 : Int) (r3 : Int) (r4 : Int) (r5 : Int) (w0 w : World) (hI : IsS158 w0 w g s0_0 s0_1 s0_2) (hB : Below w0.heap.size w0 w) (hr1 : ∀ W_, KeepBut w W_ g none → Kd.C k169 W_ A1 l1.length l1) (hc1 : l1.length ≤ c1) (h : spec_l9Ask.f k s0_0 s0_1 s0_2 l1 = some (r1, r2, r3, r4, r5)) :
  Calls Try.prog 137 #[.pointer (some ⟨g, 0, none⟩), .slice A1 l1.length c1] w fun e w' => e = .returned (.agg #[.int .i64 r1, .int .i64 r2, .int .i64 r3]) ∧ IsS158 w0 w' g s0_0 r4 r5 ∧ Below w0.heap.size w0 w' ∧ KeepBut w w' g none := by
 have hu26 := Try.underlying26
 have HR1 := Aside0.mk hr1
 have HC1 := Aside0.mk hc1
 clear hr1 hc1
 have HI0 := Aside0.mk hI
 have HK := ak (KeepBut.refl w g none)
 have HL := Aside0.mk hB.size
 clear hI
 have HW0 := Aside0.mk hB.size
 have HB := Aside0.mk hB
 clear hB
 have H : (if (l1.length : Int) > 0 then ((spec_l1Once.f s0_0 s0_1 s0_2 2).bind fun bt352 => (spec_l9Ask.j0 k l1 bt352.1 s0_0 bt352.2.1 bt352.2.2)) else (spec_l9Ask.j0 k l1 false s0_0 s0_1 s0_2)) = some (r1, r2, r3, r4, r5) := h
 clear h
 have HC3 := Aside0.mk H
 clear H
 go_enter Try.func137, Try.ntmps137
 go_upto_region 1 with (first | ((with_reducible refine gate_dst (N := 4) rfl ?_); refine bx_ (N := 4) #[.int .i64 0, .int .i64 0, .int .i64 0] 26 ?_; intro gb351 hg w4 hbox hb; replace HB := bs HB hb; have BK351 := ak hbox; have GW351 := ak (kz hg HK); have GE351 := ak (Nat.le_trans HW0.out (kz hg HK)); replace HK := ak (KeepBut.trans PH (KeepBut.of_below hb g none) (.inl rfl)); have NB0_351 := ak (nh hg (IsS158.lt (show IsS158 w0 _ g s0_0 s0_1 s0_2 from PI))); have NB351_0 := ak (ng hg (IsS158.lt (show IsS158 w0 _ g s0_0 s0_1 s0_2 from PI))); replace HI0 := ak (IsS158.below PI hb); clear hb hbox hg))
 (try simp only [Act.put, List.setIfInBounds_toArray, List.set_cons_zero, List.set_cons_succ])
 go_cut [11] (fun v11 wc => ∃ (kq : Nat) (x11_2 : Bool) (x1001_2 : Int) (x1002_2 : Int), v11 = .bool x11_2 ∧ Aside0 (spec_l9Ask.j0 kq l1 x11_2 s0_0 x1001_2 x1002_2 = some (r1, r2, r3, r4, r5)) ∧ Aside0 (kq ≤ k) ∧ Aside0 (wc.heap[gb351]? = some (.cells #[.int .i64 0, .int .i64 0, .int .i64 0] 26 (0, 0))) ∧ Aside0 (IsS158 w0 wc g s0_0 x1001_2 x1002_2) ∧ Aside0 (KeepBut w wc g none) ∧ Aside0 (Below w0.heap.size w0 wc))
 case first =>
  have H := HC3.out
  clear HC3
  by_cases c5 : (l1.length : Int) > 0
  ·rw [if_pos c5] at H
   have c5b0 : decide (0 < (l1.length : Int)) = true := decide_eq_true c5
   have c5b1 : decide (0 < l1.length) = true := decide_eq_true (by omega)
   clear c5
   (first | rw [c5b0] | (simp only [i64_w, i32_w]; rw [c5b0]) | skip)
   replace H := Option.bind_eq_some_iff.mp H
   obtain ⟨⟨t352, t353, t354⟩, A60, H⟩ := H
   replace H : (spec_l9Ask.j0 k l1 t352 s0_0 t353 t354) = some (r1, r2, r3, r4, r5) := H
   have A6 := Aside0.mk A60
   clear A60
   have H' := Aside0.mk H
   clear H
   go_wp2_with (first | (go_at_call 119; (with_reducible refine (spec_l1Once.calls g s0_0 s0_1 s0_2 2 t352 t353 t354 w0 _ ?side1 ?side2 A6.out).mono ?_); (case side1 => exact PI); (case side2 => exact PL); rintro e w7 ⟨rfl, hi, hb, hk⟩; replace BK351 := kq hk BK351 NB351_0; replace HK := kt HK hk; replace HB := ak hb; replace HI0 := ak (hi); (try clear hb); (try clear hb2); (try clear hk); (try clear hi)))
   go_meet
   case rel => exact ⟨_, (t352), (t353), (t354), (by first | rfl | (simp; done) | (simp [*]; done)), H', ⟨by first | omega | exact Nat.le_refl _⟩, ⟨PK BK351⟩, ⟨PI⟩, ⟨PH⟩, ⟨PL⟩⟩
  ·rw [if_neg c5] at H
   have c5b0 : decide (0 < (l1.length : Int)) = false := decide_eq_false c5
   have c5b1 : decide (0 < l1.length) = false := decide_eq_false (by omega)
   clear c5
   (first | rw [c5b0] | (simp only [i64_w, i32_w]; rw [c5b0]) | skip)
   have H' := Aside0.mk H
   clear H
   go_wp2
   go_meet
   case rel => exact ⟨_, (false), (s0_1), (s0_2), (by first | rfl | (simp; done) | (simp [*]; done)), H', ⟨by first | omega | exact Nat.le_refl _⟩, ⟨PK BK351⟩, ⟨PI⟩, ⟨PH⟩, ⟨PL⟩⟩
 case rest =>
  clear HC3
  (try clear c1); (try clear p2); (try clear c5); (try clear c5b0); (try clear c5b1)
  obtain ⟨kq, x11_2, x1001_2, x1002_2, rfl, HA, HJ2, BK351, HI0, HK, HB⟩ := hcut
  cases kq with
  | zero => exact absurd HA.out (by simp [spec_l9Ask.j0])
  | succ kj2 =>
   have H := HA.out
   clear HA
   simp only [spec_l9Ask.j0] at H
   by_cases c8 : x11_2 = true
   ·subst c8
    have H1 : ((spec_l1Below.f s0_0 x1001_2 x1002_2 (l1.length : Int)).bind fun bt355 => (if 0 ≤ bt355.1 then (if bt355.1 < (l1.length : Int) then (some ((rd_T169 l1 bt355.1).f0.f0, (rd_T169 l1 bt355.1).f0.f1, (rd_T169 l1 bt355.1).f0.f2, bt355.2.1, bt355.2.2)) else (none)) else (none))) = some (r1, r2, r3, r4, r5) := by rw [if_pos rfl] at H; exact H
    clear H
    have H := H1
    clear H1
    replace H := Option.bind_eq_some_iff.mp H
    obtain ⟨⟨t355, t356, t357⟩, A90, H⟩ := H
    replace H : (if 0 ≤ t355 then (if t355 < (l1.length : Int) then (some ((rd_T169 l1 t355).f0.f0, (rd_T169 l1 t355).f0.f1, (rd_T169 l1 t355).f0.f2, t356, t357)) else (none)) else (none)) = some (r1, r2, r3, r4, r5) := H
    have A9 := Aside0.mk A90
    clear A90
    by_cases c10 : 0 ≤ t355
    ·rw [if_pos c10] at H
     have c10b0 : decide (0 ≤ t355) = true := decide_eq_true c10
     clear c10
     by_cases c11 : t355 < (l1.length : Int)
     ·rw [if_pos c11] at H
      have c11b0 : decide (t355 < (l1.length : Int)) = true := decide_eq_true c11
      clear c11
      simp only [Option.some.injEq, Prod.mk.injEq] at H
      obtain ⟨rfl, rfl, rfl, rfl, rfl⟩ := H
      go_wp2_with (first | ((with_reducible refine gate_callee (f := 68) rfl ?_); refine goesL_ (some 16) rfl rfl Try.func68 KR rfl #[.pointer (some ⟨g, 0, none⟩), .int .i64 (l1.length : Int)] rfl AR ?_; (with_reducible refine (spec_l1Below.calls g s0_0 x1001_2 x1002_2 (l1.length : Int) t355 t356 t357 w0 _ ?side1 ?side2 A9.out).mono ?_); (case side1 => exact PI); (case side2 => exact PL); rintro e w12 ⟨rfl, hi, hb, hk⟩; refine ⟨_, rfl, ?_⟩; replace BK351 := kq hk BK351 NB351_0; replace HK := kt HK hk; replace HB := ak hb; replace HI0 := ak (hi); (try clear hb); (try clear hb2); (try clear hk); (try clear hi); have p358 : 0 ≤ (t355 : Int) := of_decide_eq_true (by first | (with_reducible assumption) | assumption); have q358 : t355 < (l1.length : Int) := of_decide_eq_true (by first | (with_reducible assumption) | assumption); obtain ⟨ad358, A358_5, c358_5, e358, hx358_0, hx358_1, hx358_2, hx358_3, hx358_4, hx358_5, hx358_6, hx358_7, hx358_8, hl358_5, hi358_5⟩ := at_T169 (Kd.C_foot_now HR1.out HK.out) t355 p358 q358; cases e358; have HR358_5 := Aside0.mk hi358_5; have HC358_5 := Aside0.mk hl358_5; clear hi358_5 hl358_5; replace p358 := eq_true p358; replace q358 := eq_true q358; have hnb13 := NB351_0.out; have hnc13 := NB0_351.out; obtain ⟨_, _, _, _, _, _⟩ := bc3 BK351))
      refine bodyPost_ret (results_cell_row rfl _ _ gb351 26 #[.int .i64 ((rd_T169 l1 t355).f0.f0), .int .i64 ((rd_T169 l1 t355).f0.f1), .int .i64 ((rd_T169 l1 t355).f0.f2)] (0, 0) _ rfl (PX BK351) Try.underlying26 rfl KR) rfl ?_
      exact ⟨RT, PI, PL, PH⟩
     ·rw [if_neg c11] at H
      exact absurd H (by simp)
    ·rw [if_neg c10] at H
     exact absurd H (by simp)
   ·replace c8 := Bool.eq_false_iff.mpr c8
    subst c8
    have H1 : ((spec_l4Draw.f s0_0 x1001_2 x1002_2).bind fun bt359 => (some (bt359.1, bt359.2.1, bt359.2.2.1, bt359.2.2.2.1, bt359.2.2.2.2))) = some (r1, r2, r3, r4, r5) := by rw [if_neg (show ¬ (false = true) by decide)] at H; exact H
    clear H
    have H := H1
    clear H1
    replace H := Option.bind_eq_some_iff.mp H
    obtain ⟨⟨t359, t360, t361, t362, t363⟩, A150, H⟩ := H
    replace H : (some (t359, t360, t361, t362, t363)) = some (r1, r2, r3, r4, r5) := H
    have A15 := Aside0.mk A150
    clear A150
    simp only [Option.some.injEq, Prod.mk.injEq] at H
    obtain ⟨rfl, rfl, rfl, rfl, rfl⟩ := H
    go_wp2_with (first | ((with_reducible refine gate_callee (f := 128) rfl ?_); refine goesL_ (some 21) rfl rfl Try.func128 KR rfl #[.pointer (some ⟨g, 0, none⟩)] rfl AR ?_; (with_reducible refine (spec_l4Draw.calls g s0_0 x1001_2 x1002_2 t359 t360 t361 t362 t363 w0 _ ?side1 ?side2 A15.out).mono ?_); (case side1 => exact PI); (case side2 => exact PL); rintro e w16 ⟨rfl, hi, hb, hk⟩; refine ⟨_, rfl, ?_⟩; replace BK351 := kq hk BK351 NB351_0; replace HK := kt HK hk; replace HB := ak hb; replace HI0 := ak (hi); (try clear hb); (try clear hb2); (try clear hk); (try clear hi); have hnb17 := NB351_0.out; have hnc17 := NB0_351.out; obtain ⟨hcz18_0, hcz18_1, hcz18_2, hfz18_0, hfz18_1, hfz18_2⟩ := bc3 BK351))
    refine bodyPost_ret (results_cell_row rfl _ _ gb351 26 #[.int .i64 t359, .int .i64 t360, .int .i64 t361] (0, 0) _ rfl (PX BK351) Try.underlying26 rfl KR) rfl ?_
    exact ⟨RT, PI, PL, PH⟩

/-! ### spec_l12Want: function 85 -/
def spec_l12Want.f (k : Nat) (s0_0 : List Int) (s0_1 : Int) (s0_2 : Int) (l1_0 : List (S169)) (a1_1 : Int) (a1_2 : Int) (l1_3 : List Int) : Option (Int × Int × Int × Int × Int × Int) := (spec_l1Below.f s0_0 s0_1 s0_2 6).bind fun bt366 => (if bt366.1 = 1 then ((spec_l9Ask.f k s0_0 bt366.2.1 bt366.2.2 l1_0).bind fun bt370 => (some (bt366.1, bt370.1, bt370.2.1, bt370.2.2.1, bt370.2.2.2.1, bt370.2.2.2.2))) else (some (bt366.1, 0, 0, 0, bt366.2.1, bt366.2.2)))
set_option maxHeartbeats 8000000 in
set_option maxRecDepth 100000 in
theorem spec_l12Want.calls (k : Nat) (g : Nat) (s0_0 : List Int) (s0_1 : Int) (s0_2 : Int) (A1_0 : Option Addr) (c1_0 : Nat) (l1_0 : List (S169)) (a1_1 : Int) (a1_2 : Int) (A1_3 : Option Addr) (c1_3 : Nat) (l1_3 : List Int) (r1 : Int) (r2 : Int) (r3 : Int) (r4 : Int) (r5 : Int) (r6 : Int) (w0 w : World) (hI : IsS158 w0 w g s0_0 s0_1 s0_2) (hB : Below w0.heap.size w0 w) (hr1_0 : ∀ W_, KeepBut w W_ g none → Kd.C k169 W_ A1_0 l1_0.length l1_0) (hc1_0 : l1_0.length ≤ c1_0) (hr1_3 : Kd.C (Kd.int .i64) w A1_3 l1_3.length l1_3) (hc1_3 : l1_3.length ≤ c1_3) (hf1_3 : ∀ ad, A1_3 = some ad → 0 < l1_3.length → ad.block ≠ g) (h : spec_l12Want.f k s0_0 s0_1 s0_2 l1_0 a1_1 a1_2 l1_3 = some (r1, r2, r3, r4, r5, r6)) :
  Calls Try.prog 85 #[.pointer (some ⟨g, 0, none⟩), .agg #[.slice A1_0 l1_0.length c1_0, .int .i64 a1_1, .int .i64 a1_2, .slice A1_3 l1_3.length c1_3]] w fun e w' => e = .returned (.agg #[.int .i64 r1, .int .i64 r2, .int .i64 r3, .int .i64 r4]) ∧ IsS158 w0 w' g s0_0 r5 r6 ∧ Below w0.heap.size w0 w' ∧ KeepBut w w' g none := by
 have hu61 := Try.underlying61
 have hu50 := Try.underlying50
 have hu26 := Try.underlying26
 have HR1_0 := Aside0.mk hr1_0
 have HC1_0 := Aside0.mk hc1_0
 clear hr1_0 hc1_0
 have HR1_3 := Aside0.mk hr1_3
 have HC1_3 := Aside0.mk hc1_3
 clear hr1_3 hc1_3
 have HI0 := Aside0.mk hI
 have HK := ak (KeepBut.refl w g none)
 have HL := Aside0.mk hB.size
 clear hI
 have HW0 := Aside0.mk hB.size
 have HB := Aside0.mk hB
 clear hB
 have H : ((spec_l1Below.f s0_0 s0_1 s0_2 6).bind fun bt366 => (if bt366.1 = 1 then ((spec_l9Ask.f k s0_0 bt366.2.1 bt366.2.2 l1_0).bind fun bt370 => (some (bt366.1, bt370.1, bt370.2.1, bt370.2.2.1, bt370.2.2.2.1, bt370.2.2.2.2))) else (some (bt366.1, 0, 0, 0, bt366.2.1, bt366.2.2)))) = some (r1, r2, r3, r4, r5, r6) := h
 clear h
 replace H := Option.bind_eq_some_iff.mp H
 obtain ⟨⟨t366, t367, t368⟩, A30, H⟩ := H
 replace H : (if t366 = 1 then ((spec_l9Ask.f k s0_0 t367 t368 l1_0).bind fun bt370 => (some (t366, bt370.1, bt370.2.1, bt370.2.2.1, bt370.2.2.2.1, bt370.2.2.2.2))) else (some (t366, 0, 0, 0, t367, t368))) = some (r1, r2, r3, r4, r5, r6) := H
 have A3 := Aside0.mk A30
 clear A30
 by_cases c4 : t366 = 1
 ·rw [if_pos c4] at H
  have c4b0 : (t366 == 1) = true := beq_iff_eq.mpr c4
  have c4b1 : (t366 != 1) = false := bne_eq_false_iff_eq.mpr c4
  clear c4
  replace H := Option.bind_eq_some_iff.mp H
  obtain ⟨⟨t370, t371, t372, t373, t374⟩, A50, H⟩ := H
  replace H : (some (t366, t370, t371, t372, t373, t374)) = some (r1, r2, r3, r4, r5, r6) := H
  have A5 := Aside0.mk A50
  clear A50
  simp only [Option.some.injEq, Prod.mk.injEq] at H
  obtain ⟨rfl, rfl, rfl, rfl, rfl, rfl⟩ := H
  go_enter Try.func85, Try.ntmps85
  go_wp2_with (first | ((with_reducible refine gate_dst (N := 3) rfl ?_); refine bx_ (N := 3) #[.slice A1_0 l1_0.length c1_0, .int .i64 a1_1, .int .i64 a1_2, .slice A1_3 l1_3.length c1_3] 61 ?_; intro gb364 hg w6 hbox hb; replace HB := bs HB hb; have BK364 := ak hbox; have GW364 := ak (kz hg HK); have GE364 := ak (Nat.le_trans HW0.out (kz hg HK)); replace HK := ak (KeepBut.trans PH (KeepBut.of_below hb g none) (.inl rfl)); have NB0_364 := ak (nh hg (IsS158.lt (show IsS158 w0 _ g s0_0 s0_1 s0_2 from PI))); have NB364_0 := ak (ng hg (IsS158.lt (show IsS158 w0 _ g s0_0 s0_1 s0_2 from PI))); replace HI0 := ak (IsS158.below PI hb); clear hb hbox hg) | ((with_reducible refine gate_dst (N := 4) rfl ?_); refine bx_ (N := 4) #[.int .i64 0, .int .i64 0, .int .i64 0, .int .i64 0] 50 ?_; intro gb365 hg w7 hbox hb; replace HB := bs HB hb; have BK365 := ak hbox; have GW365 := ak (kz hg HK); have GE365 := ak (Nat.le_trans HW0.out (kz hg HK)); replace HK := ak (KeepBut.trans PH (KeepBut.of_below hb g none) (.inl rfl)); have NB364_365 := gm hg BK364; have NB365_364 := gn hg BK364; replace BK364 := kf BK364 hb; have NB0_365 := ak (nh hg (IsS158.lt (show IsS158 w0 _ g s0_0 s0_1 s0_2 from PI))); have NB365_0 := ak (ng hg (IsS158.lt (show IsS158 w0 _ g s0_0 s0_1 s0_2 from PI))); replace HI0 := ak (IsS158.below PI hb); clear hb hbox hg) | ((with_reducible refine gate_callee (f := 68) rfl ?_); refine goesL_ (some 7) rfl rfl Try.func68 KR rfl #[.pointer (some ⟨g, 0, none⟩), .int .i64 6] rfl AR ?_; (with_reducible refine (spec_l1Below.calls g s0_0 s0_1 s0_2 6 t366 t367 t368 w0 _ ?side1 ?side2 A3.out).mono ?_); (case side1 => exact PI); (case side2 => exact PL); rintro e w8 ⟨rfl, hi, hb, hk⟩; refine ⟨_, rfl, ?_⟩; replace BK364 := kq hk BK364 NB364_0; replace BK365 := kq hk BK365 NB365_0; replace HK := kt HK hk; replace HB := ak hb; replace HI0 := ak (hi); (try clear hb); (try clear hb2); (try clear hk); (try clear hi)) | ((with_reducible refine gate_dst (N := 5) rfl ?_); refine bx_ (N := 5) #[.int .i64 0, .int .i64 0, .int .i64 0, .int .i64 0] 50 ?_; intro gb369 hg w9 hbox hb; replace HB := bs HB hb; have BK369 := ak hbox; have GW369 := ak (kz hg HK); have GE369 := ak (Nat.le_trans HW0.out (kz hg HK)); replace HK := ak (KeepBut.trans PH (KeepBut.of_below hb g none) (.inl rfl)); have NB364_369 := gm hg BK364; have NB369_364 := gn hg BK364; replace BK364 := kf BK364 hb; have NB365_369 := gm hg BK365; have NB369_365 := gn hg BK365; replace BK365 := kf BK365 hb; have NB0_369 := ak (nh hg (IsS158.lt (show IsS158 w0 _ g s0_0 t367 t368 from PI))); have NB369_0 := ak (ng hg (IsS158.lt (show IsS158 w0 _ g s0_0 t367 t368 from PI))); replace HI0 := ak (IsS158.below PI hb); clear hb hbox hg; have hnb10 := NB369_364.out; have hnc10 := NB364_369.out; have hnb11 := NB369_365.out; have hnc11 := NB365_369.out; have hnb12 := NB369_0.out; have hnc12 := NB0_369.out; obtain ⟨_, _, _, _, _, _, _, _⟩ := bc4 BK369; have hnb14 := NB364_365.out; have hnc14 := NB365_364.out; have hnb15 := NB364_0.out; have hnc15 := NB0_364.out; obtain ⟨_, _, _, _, _, _, _, _⟩ := bc4 BK364) | ((with_reducible refine gate_callee (f := 137) rfl ?_); refine goesL_ (some 15) rfl rfl Try.func137 KR rfl #[.pointer (some ⟨g, 0, none⟩), .slice A1_0 l1_0.length c1_0] rfl AR ?_; (with_reducible refine (spec_l9Ask.calls k g s0_0 t367 t368 _ _ l1_0 t370 t371 t372 t373 t374 w0 _ ?side1 ?side2 ?side3 ?side4 A5.out).mono ?_); (case side1 => exact PI); (case side2 => exact PL); (case side3 => exact Kd.C_foot_step HR1_0.out PH); (case side4 => exact HC1_0.out); rintro e w17 ⟨rfl, hi, hb, hk⟩; refine ⟨_, rfl, ?_⟩; replace BK364 := kq hk BK364 NB364_0; replace BK365 := kq hk BK365 NB365_0; replace BK369 := kr (cs' := #[.int .i64 t366, .int .i64 0, .int .i64 0, .int .i64 0]) hk BK369 NB369_0; replace HK := kt HK hk; replace HB := ak hb; replace HI0 := ak (hi); (try clear hb); (try clear hb2); (try clear hk); (try clear hi); obtain ⟨hcz18_0, hcz18_1, hcz18_2, _, hfz18_0, hfz18_1, hfz18_2, _⟩ := bc4 BK369; have hnb19 := NB365_0.out; have hnc19 := NB0_365.out; obtain ⟨_, _, _, _, _, _, _, _⟩ := bc4 BK365))
  refine bodyPost_ret (results_cell_row rfl _ _ gb365 50 #[.int .i64 t366, .int .i64 t370, .int .i64 t371, .int .i64 t372] (0, 0) _ rfl (PX BK365) Try.underlying50 rfl KR) rfl ?_
  exact ⟨RT, PI, PL, PH⟩
 ·rw [if_neg c4] at H
  have c4b0 : (t366 == 1) = false := beq_eq_false_iff_ne.mpr c4
  have c4b1 : (t366 != 1) = true := bne_iff_ne.mpr c4
  simp only [Option.some.injEq, Prod.mk.injEq] at H
  obtain ⟨rfl, rfl, rfl, rfl, rfl, rfl⟩ := H
  go_enter Try.func85, Try.ntmps85
  go_wp2_with (first | ((with_reducible refine gate_dst (N := 3) rfl ?_); refine bx_ (N := 3) #[.slice A1_0 l1_0.length c1_0, .int .i64 a1_1, .int .i64 a1_2, .slice A1_3 l1_3.length c1_3] 61 ?_; intro gb364 hg w21 hbox hb; replace HB := bs HB hb; have BK364 := ak hbox; have GW364 := ak (kz hg HK); have GE364 := ak (Nat.le_trans HW0.out (kz hg HK)); replace HK := ak (KeepBut.trans PH (KeepBut.of_below hb g none) (.inl rfl)); have NB0_364 := ak (nh hg (IsS158.lt (show IsS158 w0 _ g s0_0 s0_1 s0_2 from PI))); have NB364_0 := ak (ng hg (IsS158.lt (show IsS158 w0 _ g s0_0 s0_1 s0_2 from PI))); replace HI0 := ak (IsS158.below PI hb); clear hb hbox hg) | ((with_reducible refine gate_dst (N := 4) rfl ?_); refine bx_ (N := 4) #[.int .i64 0, .int .i64 0, .int .i64 0, .int .i64 0] 50 ?_; intro gb365 hg w22 hbox hb; replace HB := bs HB hb; have BK365 := ak hbox; have GW365 := ak (kz hg HK); have GE365 := ak (Nat.le_trans HW0.out (kz hg HK)); replace HK := ak (KeepBut.trans PH (KeepBut.of_below hb g none) (.inl rfl)); have NB364_365 := gm hg BK364; have NB365_364 := gn hg BK364; replace BK364 := kf BK364 hb; have NB0_365 := ak (nh hg (IsS158.lt (show IsS158 w0 _ g s0_0 s0_1 s0_2 from PI))); have NB365_0 := ak (ng hg (IsS158.lt (show IsS158 w0 _ g s0_0 s0_1 s0_2 from PI))); replace HI0 := ak (IsS158.below PI hb); clear hb hbox hg) | ((with_reducible refine gate_callee (f := 68) rfl ?_); refine goesL_ (some 7) rfl rfl Try.func68 KR rfl #[.pointer (some ⟨g, 0, none⟩), .int .i64 6] rfl AR ?_; (with_reducible refine (spec_l1Below.calls g s0_0 s0_1 s0_2 6 t366 t367 t368 w0 _ ?side1 ?side2 A3.out).mono ?_); (case side1 => exact PI); (case side2 => exact PL); rintro e w23 ⟨rfl, hi, hb, hk⟩; refine ⟨_, rfl, ?_⟩; replace BK364 := kq hk BK364 NB364_0; replace BK365 := kq hk BK365 NB365_0; replace HK := kt HK hk; replace HB := ak hb; replace HI0 := ak (hi); (try clear hb); (try clear hb2); (try clear hk); (try clear hi)) | ((with_reducible refine gate_dst (N := 5) rfl ?_); refine bx_ (N := 5) #[.int .i64 0, .int .i64 0, .int .i64 0, .int .i64 0] 50 ?_; intro gb369 hg w24 hbox hb; replace HB := bs HB hb; have BK369 := ak hbox; have GW369 := ak (kz hg HK); have GE369 := ak (Nat.le_trans HW0.out (kz hg HK)); replace HK := ak (KeepBut.trans PH (KeepBut.of_below hb g none) (.inl rfl)); have NB364_369 := gm hg BK364; have NB369_364 := gn hg BK364; replace BK364 := kf BK364 hb; have NB365_369 := gm hg BK365; have NB369_365 := gn hg BK365; replace BK365 := kf BK365 hb; have NB0_369 := ak (nh hg (IsS158.lt (show IsS158 w0 _ g s0_0 t367 t368 from PI))); have NB369_0 := ak (ng hg (IsS158.lt (show IsS158 w0 _ g s0_0 t367 t368 from PI))); replace HI0 := ak (IsS158.below PI hb); clear hb hbox hg; have hnb25 := NB369_364.out; have hnc25 := NB364_369.out; have hnb26 := NB369_365.out; have hnc26 := NB365_369.out; have hnb27 := NB369_0.out; have hnc27 := NB0_369.out; obtain ⟨_, _, _, _, _, _, _, _⟩ := bc4 BK369; have hnb29 := NB365_364.out; have hnc29 := NB364_365.out; have hnb30 := NB365_0.out; have hnc30 := NB0_365.out; obtain ⟨_, _, _, _, _, _, _, _⟩ := bc4 BK365))
  refine bodyPost_ret (results_cell_row rfl _ _ gb365 50 #[.int .i64 t366, .int .i64 0, .int .i64 0, .int .i64 0] (0, 0) _ rfl (PX BK365) Try.underlying50 rfl KR) rfl ?_
  exact ⟨RT, PI, PL, PH⟩

/-! ### spec_DrawLiveValue: function 29 -/
def spec_DrawLiveValue.f (k : Nat) (l0 : List Int) : Option ((List (S169)) × Int × Int × List Int × Int × Int × Int × Int × Int) := (spec_l1New.f k l0).bind fun bt377 => ((spec_l12Any.f k bt377.1 bt377.2.1 bt377.2.2).bind fun bt381 => ((spec_l12Want.f k bt377.1 bt381.2.2.2.2.1 bt381.2.2.2.2.2 bt381.1 bt381.2.1 bt381.2.2.1 bt381.2.2.2.1).bind fun bt392 => ((spec_l1Int.f bt377.1 bt392.2.2.2.2.1 bt392.2.2.2.2.2 (([0, 1, 2, 5, 100, 101, (-1)] : List Int))).bind fun bt402 => (some (bt381.1, bt381.2.1, bt381.2.2.1, bt381.2.2.2.1, bt392.1, bt392.2.1, bt392.2.2.1, bt392.2.2.2.1, bt402.1)))))
def spec_DrawLiveValue.T4 : Bool × List (List Nat × List Nat) := (true, [([], []), ([], []), ([], []), ([], []), ([2, 3], [2, 3]), ([0, 4, 0], [0]), ([1, 5, 0, 1, 5], [1]), ([4, 6, 0, 1, 2, 3, 4, 5, 6], [4])])
def spec_DrawLiveValue.B4 : List Nat := [0, 0, 0, 0, 12, 29, 63, 127]
theorem spec_DrawLiveValue.tab4 : rtab .any (opsOf Try.f29 4) = spec_DrawLiveValue.T4 := by kernel_rfl
theorem spec_DrawLiveValue.bits4 : waitsOk spec_DrawLiveValue.T4.2 spec_DrawLiveValue.B4 = true := by kernel_rfl
set_option maxHeartbeats 8000000 in
set_option maxRecDepth 100000 in
theorem spec_DrawLiveValue.calls (k : Nat) (A0 : Option Addr) (c0 : Nat) (l0 : List Int) (r1 : List (S169)) (r2 : Int) (r3 : Int) (r4 : List Int) (r5 : Int) (r6 : Int) (r7 : Int) (r8 : Int) (r9 : Int) (w : World) (hr0 : Kd.C (Kd.int .u8) w A0 l0.length l0) (hc0 : l0.length ≤ c0) (h : spec_DrawLiveValue.f k l0 = some (r1, r2, r3, r4, r5, r6, r7, r8, r9)) :
  Calls Try.prog 29 #[.slice A0 l0.length c0] w fun e w' => ∃ v0_ v3_ : Value, e = .returned (.tuple #[.agg #[v0_, .int .i64 r2, .int .i64 r3, v3_], .agg #[.int .i64 r5, .int .i64 r6, .int .i64 r7, .int .i64 r8], .int .i64 r9]) ∧ Kd.S k169 169 w' w.heap.size (fun k_ => some k_ ≠ (v3_ : Value).ownBlock) v0_ r1 ∧ Kd.R (Kd.int .i64) 3 w' w.heap.size (fun _ => True) v3_ r4 ∧ Below w.heap.size w w' := by
 have hu61 := Try.underlying61
 have hu50 := Try.underlying50
 have HR0 := Aside0.mk hr0
 have HC0 := Aside0.mk hc0
 clear hr0 hc0
 have HB := ak (Below.refl w.heap.size w)
 have H : ((spec_l1New.f k l0).bind fun bt377 => ((spec_l12Any.f k bt377.1 bt377.2.1 bt377.2.2).bind fun bt381 => ((spec_l12Want.f k bt377.1 bt381.2.2.2.2.1 bt381.2.2.2.2.2 bt381.1 bt381.2.1 bt381.2.2.1 bt381.2.2.2.1).bind fun bt392 => ((spec_l1Int.f bt377.1 bt392.2.2.2.2.1 bt392.2.2.2.2.2 (([0, 1, 2, 5, 100, 101, (-1)] : List Int))).bind fun bt402 => (some (bt381.1, bt381.2.1, bt381.2.2.1, bt381.2.2.2.1, bt392.1, bt392.2.1, bt392.2.2.1, bt392.2.2.2.1, bt402.1)))))) = some (r1, r2, r3, r4, r5, r6, r7, r8, r9) := h
 clear h
 replace H := Option.bind_eq_some_iff.mp H
 obtain ⟨⟨t377, t378, t379⟩, A20, H⟩ := H
 replace H : ((spec_l12Any.f k t377 t378 t379).bind fun bt381 => ((spec_l12Want.f k t377 bt381.2.2.2.2.1 bt381.2.2.2.2.2 bt381.1 bt381.2.1 bt381.2.2.1 bt381.2.2.2.1).bind fun bt392 => ((spec_l1Int.f t377 bt392.2.2.2.2.1 bt392.2.2.2.2.2 (([0, 1, 2, 5, 100, 101, (-1)] : List Int))).bind fun bt402 => (some (bt381.1, bt381.2.1, bt381.2.2.1, bt381.2.2.2.1, bt392.1, bt392.2.1, bt392.2.2.1, bt392.2.2.2.1, bt402.1))))) = some (r1, r2, r3, r4, r5, r6, r7, r8, r9) := H
 have A2 := Aside0.mk A20
 clear A20
 replace H := Option.bind_eq_some_iff.mp H
 obtain ⟨⟨t381, t384, t385, t386, t389, t390⟩, A30, H⟩ := H
 replace H : ((spec_l12Want.f k t377 t389 t390 t381 t384 t385 t386).bind fun bt392 => ((spec_l1Int.f t377 bt392.2.2.2.2.1 bt392.2.2.2.2.2 (([0, 1, 2, 5, 100, 101, (-1)] : List Int))).bind fun bt402 => (some (t381, t384, t385, t386, bt392.1, bt392.2.1, bt392.2.2.1, bt392.2.2.2.1, bt402.1)))) = some (r1, r2, r3, r4, r5, r6, r7, r8, r9) := H
 have A3 := Aside0.mk A30
 clear A30
 replace H := Option.bind_eq_some_iff.mp H
 obtain ⟨⟨t392, t393, t394, t395, t396, t397⟩, A40, H⟩ := H
 replace H : ((spec_l1Int.f t377 t396 t397 (([0, 1, 2, 5, 100, 101, (-1)] : List Int))).bind fun bt402 => (some (t381, t384, t385, t386, t392, t393, t394, t395, bt402.1))) = some (r1, r2, r3, r4, r5, r6, r7, r8, r9) := H
 have A4 := Aside0.mk A40
 clear A40
 obtain ⟨y399, hy399⟩ : ∃ y_ : List Int, y_ = (([0, 1, 2, 5, 100, 101, (-1)] : List Int)) := ⟨_, rfl⟩
 replace H : ((spec_l1Int.f t377 t396 t397 y399).bind fun bt402 => (some (t381, t384, t385, t386, t392, t393, t394, t395, bt402.1))) = some (r1, r2, r3, r4, r5, r6, r7, r8, r9) := by first | (rw [hy399]; with_reducible exact H) | (have H2_ := (Option.bind_some _ _).symm.trans H; rw [hy399]; with_reducible exact H2_) | (have H2_ := (Option.bind_some _ _).symm.trans H; with_reducible exact H2_) | with_reducible exact H | (rw [hy399]; exact H) | exact H
 have Ny399 := Aside0.mk hy399
 clear hy399
 replace H := Option.bind_eq_some_iff.mp H
 obtain ⟨⟨t402, t403, t404⟩, A50, H⟩ := H
 replace H : (some (t381, t384, t385, t386, t392, t393, t394, t395, t402)) = some (r1, r2, r3, r4, r5, r6, r7, r8, r9) := H
 have A5 := Aside0.mk A50
 clear A50
 simp only [Option.some.injEq, Prod.mk.injEq] at H
 obtain ⟨rfl, rfl, rfl, rfl, rfl, rfl, rfl, rfl, rfl⟩ := H
 go_enter Try.func29, Try.ntmps29
 try go_wp2_with (first | ((with_reducible refine gate_dst (N := 2) rfl ?_); refine bx_ (N := 2) #[.slice none 0 0, .int .i64 0, .int .i64 0, .slice none 0 0] 61 ?_; intro gb375 hg w6 hbox hb; have BK375 := ak hbox; have GW375 := gy hg HB; have GE375 := gy hg HB; replace HB := bs HB hb; clear hb hbox hg) | ((with_reducible refine gate_dst (N := 3) rfl ?_); refine bx_ (N := 3) #[.int .i64 0, .int .i64 0, .int .i64 0, .int .i64 0] 50 ?_; intro gb376 hg w7 hbox hb; have BK376 := ak hbox; have GW376 := gy hg HB; have GE376 := gy hg HB; replace HB := bs HB hb; have NB375_376 := gm hg BK375; have NB376_375 := gn hg BK375; replace BK375 := kf BK375 hb; clear hb hbox hg) | ((with_reducible refine gate_callee (f := 66) rfl ?_); refine goesL_ (some 9) rfl rfl Try.func66 KR rfl #[.slice A0 l0.length c0] rfl AR ?_; (with_reducible refine (spec_l1New.calls k _ _ l0 t377 t378 t379 w _ ?side1 ?side2 ?side3 A2.out).mono ?_); (case side1 => exact PL); (case side2 => exact HR0.out); (case side3 => exact HC0.out); rintro e w8 ⟨g380, rfl, hi, hb, hb2⟩; refine ⟨_, rfl, ?_⟩; replace HB := ak hb; have HI380 := ak (hi); have NB380_375 := ak (IsS158.ne_blk hi (blk_below (g := gb375) (o := .cells #[.slice none 0 0, .int .i64 0, .int .i64 0, .slice none 0 0] 61 (0, 0)) (PK BK375) hb2) (by decide)); have NB375_380 := ak (Ne.symm (IsS158.ne_blk hi (blk_below (g := gb375) (o := .cells #[.slice none 0 0, .int .i64 0, .int .i64 0, .slice none 0 0] 61 (0, 0)) (PK BK375) hb2) (by decide))); replace BK375 := ak (blk_below (g := gb375) (o := .cells #[.slice none 0 0, .int .i64 0, .int .i64 0, .slice none 0 0] 61 (0, 0)) (PK BK375) hb2); have NB380_376 := ak (IsS158.ne_blk hi (blk_below (g := gb376) (o := .cells #[.int .i64 0, .int .i64 0, .int .i64 0, .int .i64 0] 50 (0, 0)) (PK BK376) hb2) (by decide)); have NB376_380 := ak (Ne.symm (IsS158.ne_blk hi (blk_below (g := gb376) (o := .cells #[.int .i64 0, .int .i64 0, .int .i64 0, .int .i64 0] 50 (0, 0)) (PK BK376) hb2) (by decide))); replace BK376 := ak (blk_below (g := gb376) (o := .cells #[.int .i64 0, .int .i64 0, .int .i64 0, .int .i64 0] 50 (0, 0)) (PK BK376) hb2); (try clear hb); (try clear hb2); (try clear hk); (try clear hi)) | ((with_reducible refine gate_callee (f := 84) rfl ?_); refine goesL_ (some 11) rfl rfl Try.func84 KR rfl #[.pointer (some ⟨g380, 0, none⟩)] rfl AR ?_; (with_reducible refine (spec_l12Any.calls k g380 t377 t378 t379 t381 t384 t385 t386 t389 t390 w _ ?side1 ?side2 A3.out).mono ?_); (case side1 => repeat (first | (with_reducible first | exact HI380.out | apply IsS158.alloc | apply IsS158.drewN | apply IsS158.drew | apply IsS158.set_1 | apply IsS158.set_2 | refine IsS158.far ?_ NB380_375.out _ | refine IsS158.far ?_ NB380_376.out _) | exact HI380.out)); (case side2 => repeat (first | (with_reducible first | exact HB.out | apply below_alloc | apply pw_below_drewN | apply below_drew1 | refine below_set ?_ (IsS158.ge HI380.out) | refine below_set ?_ GE375.out | refine below_set ?_ GE376.out) | exact HB.out)); rintro e w9 ⟨v382, v387, rfl, ho0, ho1, hi, hb, hk⟩; refine ⟨_, rfl, ?_⟩; replace BK375 := kq hk BK375 NB375_380; replace BK376 := kq hk BK376 NB376_380; have HO383 := ak (Kd.S_lower ho0 (below_size (by repeat (first | (with_reducible first | exact HB.out | apply below_alloc | apply pw_below_drewN | apply below_drew1 | refine below_set ?_ (IsS158.ge HI380.out) | refine below_set ?_ GE375.out | refine below_set ?_ GE376.out) | exact HB.out)))); have HO388 := ak (Kd.R_lower ho1 (below_size (by repeat (first | (with_reducible first | exact HB.out | apply below_alloc | apply pw_below_drewN | apply below_drew1 | refine below_set ?_ (IsS158.ge HI380.out) | refine below_set ?_ GE375.out | refine below_set ?_ GE376.out) | exact HB.out)))); replace HB := ak hb; replace HI380 := ak (hi); (try clear hb); (try clear hb2); (try clear hk); (try clear hi); (try clear ho0); (try clear ho1)) | ((with_reducible refine gate_dst (N := 6) rfl ?_); refine bx_ (N := 6) #[.slice none 0 0, .int .i64 0, .int .i64 0, .slice none 0 0] 61 ?_; intro gb391 hg w10 hbox hb; replace HO383 := Sb HO383 hb; replace HO388 := Rb HO388 hb; have BK391 := ak hbox; have GW391 := ak ((by rw [hg]; exact (below_size (by repeat (first | (with_reducible first | exact HB.out | apply below_alloc | apply pw_below_drewN | apply below_drew1 | refine below_set ?_ (IsS158.ge HI380.out) | refine below_set ?_ GE375.out | refine below_set ?_ GE376.out) | exact HB.out))) : w.heap.size ≤ gb391)); have GE391 := ak ((by rw [hg]; exact (below_size (by repeat (first | (with_reducible first | exact HB.out | apply below_alloc | apply pw_below_drewN | apply below_drew1 | refine below_set ?_ (IsS158.ge HI380.out) | refine below_set ?_ GE375.out | refine below_set ?_ GE376.out) | exact HB.out))) : w.heap.size ≤ gb391)); replace HB := ak (below_step (by repeat (first | (with_reducible first | exact HB.out | apply below_alloc | apply pw_below_drewN | apply below_drew1 | refine below_set ?_ (IsS158.ge HI380.out) | refine below_set ?_ GE375.out | refine below_set ?_ GE376.out) | exact HB.out)) hb); have NB375_391 := gm hg BK375; have NB391_375 := gn hg BK375; replace BK375 := kf BK375 hb; have NB376_391 := gm hg BK376; have NB391_376 := gn hg BK376; replace BK376 := kf BK376 hb; have NB380_391 := ak ((by rw [hg]; exact Nat.ne_of_lt (IsS158.lt (show IsS158 w _ g380 t377 t389 t390 from by repeat (first | (with_reducible first | exact HI380.out | apply IsS158.alloc | apply IsS158.drewN | apply IsS158.drew | apply IsS158.set_1 | apply IsS158.set_2 | refine IsS158.far ?_ NB380_375.out _ | refine IsS158.far ?_ NB380_376.out _) | exact HI380.out))) : g380 ≠ gb391)); have NB391_380 := ak ((by rw [hg]; exact Nat.ne_of_gt (IsS158.lt (show IsS158 w _ g380 t377 t389 t390 from by repeat (first | (with_reducible first | exact HI380.out | apply IsS158.alloc | apply IsS158.drewN | apply IsS158.drew | apply IsS158.set_1 | apply IsS158.set_2 | refine IsS158.far ?_ NB380_375.out _ | refine IsS158.far ?_ NB380_376.out _) | exact HI380.out))) : gb391 ≠ g380)); replace HI380 := ak (IsS158.below (by repeat (first | (with_reducible first | exact HI380.out | apply IsS158.alloc | apply IsS158.drewN | apply IsS158.drew | apply IsS158.set_1 | apply IsS158.set_2 | refine IsS158.far ?_ NB380_375.out _ | refine IsS158.far ?_ NB380_376.out _) | exact HI380.out)) hb); clear hb hbox hg; obtain ⟨Ao11, co11, eo11⟩ := Kd.S_slice HO383.out; subst eo11; have hnb12 := NB391_375.out; have hnc12 := NB375_391.out; have hnb13 := NB391_376.out; have hnc13 := NB376_391.out; have hnb14 := NB391_380.out; have hnc14 := NB380_391.out; obtain ⟨_, _, _, _, _, _, _, _⟩ := bc4 BK391; obtain ⟨Ao16, co16, eo16⟩ := Kd.R_slice HO388.out; subst eo16) | ((with_reducible refine gate_callee (f := 85) rfl ?_); refine goesL_ (some 14) rfl rfl Try.func85 KR rfl #[.pointer (some ⟨g380, 0, none⟩), .agg #[.slice Ao11 t381.length co11, .int .i64 t384, .int .i64 t385, .slice Ao16 t386.length co16]] rfl AR ?_; (with_reducible refine (spec_l12Want.calls k g380 t377 t389 t390 _ _ t381 t384 t385 _ _ t386 t392 t393 t394 t395 t396 t397 w _ ?side1 ?side2 ?side3 ?side4 ?side5 ?side6 ?side7 A4.out).mono ?_); (case side1 => repeat (first | (with_reducible first | exact HI380.out | apply IsS158.alloc | apply IsS158.drewN | apply IsS158.drew | apply IsS158.set_1 | apply IsS158.set_2 | refine IsS158.far ?_ NB380_375.out _ | refine IsS158.far ?_ NB380_376.out _ | refine IsS158.far ?_ NB380_391.out _) | exact HI380.out)); (case side2 => repeat (first | (with_reducible first | exact HB.out | apply below_alloc | apply pw_below_drewN | apply below_drew1 | refine below_set ?_ (IsS158.ge HI380.out) | refine below_set ?_ GE375.out | refine below_set ?_ GE376.out | refine below_set ?_ GE391.out) | exact HB.out)); (case side3 => exact Kd.C_foot_own ((Kd.S_R (IsS158.apartS (show IsS158 w _ g380 t377 t389 t390 from by repeat (first | (with_reducible first | exact HI380.out | apply IsS158.alloc | apply IsS158.drewN | apply IsS158.drew | apply IsS158.set_1 | apply IsS158.set_2 | refine IsS158.far ?_ NB380_375.out _ | refine IsS158.far ?_ NB380_376.out _ | refine IsS158.far ?_ NB380_391.out _) | exact HI380.out)) (Se1 HO383 BK391) (by decide)))) (fun _ h_ => h_.2)); (case side4 => exact (Kd.S_reads' HO383.out).2.1); (case side5 => exact (Kd.R_reads' (Re1 HO388 BK391)).2.2); (case side6 => exact (Kd.R_reads' HO388.out).2.1); (case side7 => exact far_slice (IsS158.own_ne HI380.out HO388.out (by decide))); rintro e w17 ⟨rfl, hi, hb, hk⟩; refine ⟨_, rfl, ?_⟩; replace BK375 := kq hk BK375 NB375_380; replace BK376 := kq hk BK376 NB376_380; replace HO383 := Sk (IsS158.apartS (show IsS158 w _ g380 t377 t389 t390 from by repeat (first | (with_reducible first | exact HI380.out | apply IsS158.alloc | apply IsS158.drewN | apply IsS158.drew | apply IsS158.set_1 | apply IsS158.set_2 | refine IsS158.far ?_ NB380_375.out _ | refine IsS158.far ?_ NB380_376.out _ | refine IsS158.far ?_ NB380_391.out _) | exact HI380.out)) (Se1 HO383 BK391) (by decide)) hk; replace HO388 := Rk (IsS158.apart (show IsS158 w _ g380 t377 t389 t390 from by repeat (first | (with_reducible first | exact HI380.out | apply IsS158.alloc | apply IsS158.drewN | apply IsS158.drew | apply IsS158.set_1 | apply IsS158.set_2 | refine IsS158.far ?_ NB380_375.out _ | refine IsS158.far ?_ NB380_376.out _ | refine IsS158.far ?_ NB380_391.out _) | exact HI380.out)) (Re1 HO388 BK391) (by decide)) hk; replace BK391 := kr (cs' := #[.slice Ao11 t381.length co11, .int .i64 t384, .int .i64 t385, .slice Ao16 t386.length co16]) hk BK391 NB391_380; replace HB := ak hb; replace HI380 := ak (hi); (try clear hb); (try clear hb2); (try clear hk); (try clear hi)) | ((with_reducible refine gate_dst (N := 7) rfl ?_); refine bx_ (N := 7) #[.int .i64 0, .int .i64 0, .int .i64 0, .int .i64 0] 50 ?_; intro gb398 hg w18 hbox hb; replace HO383 := Sb HO383 hb; replace HO388 := Rb HO388 hb; have BK398 := ak hbox; have GW398 := ak ((by rw [hg]; exact (below_size (by repeat (first | (with_reducible first | exact HB.out | apply below_alloc | apply pw_below_drewN | apply below_drew1 | refine below_set ?_ (IsS158.ge HI380.out) | refine below_set ?_ GE375.out | refine below_set ?_ GE376.out | refine below_set ?_ GE391.out) | exact HB.out))) : w.heap.size ≤ gb398)); have GE398 := ak ((by rw [hg]; exact (below_size (by repeat (first | (with_reducible first | exact HB.out | apply below_alloc | apply pw_below_drewN | apply below_drew1 | refine below_set ?_ (IsS158.ge HI380.out) | refine below_set ?_ GE375.out | refine below_set ?_ GE376.out | refine below_set ?_ GE391.out) | exact HB.out))) : w.heap.size ≤ gb398)); replace HB := ak (below_step (by repeat (first | (with_reducible first | exact HB.out | apply below_alloc | apply pw_below_drewN | apply below_drew1 | refine below_set ?_ (IsS158.ge HI380.out) | refine below_set ?_ GE375.out | refine below_set ?_ GE376.out | refine below_set ?_ GE391.out) | exact HB.out)) hb); have NB375_398 := gm hg BK375; have NB398_375 := gn hg BK375; replace BK375 := kf BK375 hb; have NB376_398 := gm hg BK376; have NB398_376 := gn hg BK376; replace BK376 := kf BK376 hb; have NB391_398 := gm hg BK391; have NB398_391 := gn hg BK391; replace BK391 := kf BK391 hb; have NB380_398 := ak ((by rw [hg]; exact Nat.ne_of_lt (IsS158.lt (show IsS158 w _ g380 t377 t396 t397 from by repeat (first | (with_reducible first | exact HI380.out | apply IsS158.alloc | apply IsS158.drewN | apply IsS158.drew | apply IsS158.set_1 | apply IsS158.set_2 | refine IsS158.far ?_ NB380_375.out _ | refine IsS158.far ?_ NB380_376.out _ | refine IsS158.far ?_ NB380_391.out _) | exact HI380.out))) : g380 ≠ gb398)); have NB398_380 := ak ((by rw [hg]; exact Nat.ne_of_gt (IsS158.lt (show IsS158 w _ g380 t377 t396 t397 from by repeat (first | (with_reducible first | exact HI380.out | apply IsS158.alloc | apply IsS158.drewN | apply IsS158.drew | apply IsS158.set_1 | apply IsS158.set_2 | refine IsS158.far ?_ NB380_375.out _ | refine IsS158.far ?_ NB380_376.out _ | refine IsS158.far ?_ NB380_391.out _) | exact HI380.out))) : gb398 ≠ g380)); replace HI380 := ak (IsS158.below (by repeat (first | (with_reducible first | exact HI380.out | apply IsS158.alloc | apply IsS158.drewN | apply IsS158.drew | apply IsS158.set_1 | apply IsS158.set_2 | refine IsS158.far ?_ NB380_375.out _ | refine IsS158.far ?_ NB380_376.out _ | refine IsS158.far ?_ NB380_391.out _) | exact HI380.out)) hb); clear hb hbox hg; have hnb19 := NB398_375.out; have hnc19 := NB375_398.out; have hnb20 := NB398_376.out; have hnc20 := NB376_398.out; have hnb21 := NB398_391.out; have hnc21 := NB391_398.out; have hnb22 := NB398_380.out; have hnc22 := NB380_398.out; obtain ⟨_, _, _, _, _, _, _, _⟩ := bc4 BK398))
 generalize hW_ : ((((w18.setCell ⟨gb398, 0, none⟩ (.int .i64 t392)).setCell ⟨gb398, 1, none⟩ (.int .i64 t393)).setCell ⟨gb398, 2, none⟩ (.int .i64 t394)).setCell ⟨gb398, 3, none⟩ (.int .i64 t395)) = w24
 replace HO383 := S1 hW_ HO383 BK398
 replace HO388 : Aside0 (Kd.R (Kd.int .i64) 3 w24 w.heap.size (fun _ => True) (.slice Ao16 t386.length co16) t386) := ⟨by rw [← hW_]; exact RX (Rt HO388.out BK398) (fun _ hk => trivial)⟩
 replace BK375 := BE hW_ BK375
 replace BK376 := BE hW_ BK376
 replace BK391 := BE hW_ BK391
 replace BK398 : Aside0 (w24.heap[gb398]? = some (.cells #[.int .i64 t392, .int .i64 t393, .int .i64 t394, .int .i64 t395] 50 (0, 0))) := BP hW_ BK398
 replace HB : Aside0 (Below w.heap.size w w24) := ⟨by rw [← hW_]; repeat (first | (with_reducible first | exact HB.out | apply below_alloc | apply pw_below_drewN | apply below_drew1 | refine below_set ?_ (IsS158.ge HI380.out) | refine below_set ?_ GE375.out | refine below_set ?_ GE376.out | refine below_set ?_ GE391.out | refine below_set ?_ GE398.out) | exact HB.out)⟩
 replace HI380 : Aside0 (IsS158 w w24 g380 t377 t396 t397) := ⟨by rw [← hW_]; repeat (first | (with_reducible first | exact HI380.out | apply IsS158.alloc | apply IsS158.drewN | apply IsS158.drew | apply IsS158.set_1 | apply IsS158.set_2 | refine IsS158.far ?_ NB380_375.out _ | refine IsS158.far ?_ NB380_376.out _ | refine IsS158.far ?_ NB380_391.out _ | refine IsS158.far ?_ NB380_398.out _) | exact HI380.out)⟩
 (try clear hW_)
 replace HO383 := ak (Kd.S_drew HO383.out)
 replace HO388 := ak (Kd.R_drew HO388.out)
 replace BK375 := ak (blk_drew BK375.out)
 replace BK376 := ak (blk_drew BK376.out)
 replace BK391 := ak (blk_drew BK391.out)
 replace BK398 := ak (blk_drew BK398.out)
 replace HI380 := ak (IsS158.drew HI380.out)
 replace HB := ak (below_drew1 HB.out)
 refine start_ (n := 8) (S := fun w' => w'.cell? ⟨gb391, 0, none⟩ = some (.slice Ao11 t381.length co11) ∧ w'.cell? ⟨gb391, 1, none⟩ = some (.int .i64 t384) ∧ w'.cell? ⟨gb391, 2, none⟩ = some (.int .i64 t385) ∧ w'.cell? ⟨gb391, 3, none⟩ = some (.slice Ao16 t386.length co16) ∧ w'.cell? ⟨gb398, 0, none⟩ = some (.int .i64 t392) ∧ w'.cell? ⟨gb398, 1, none⟩ = some (.int .i64 t393) ∧ w'.cell? ⟨gb398, 2, none⟩ = some (.int .i64 t394) ∧ w'.cell? ⟨gb398, 3, none⟩ = some (.int .i64 t395)) (ds := []) #[false, false, false, false, false, false, false, false] KR rfl rfl ⟨(blk_cell BK391.out 0).trans rfl, (blk_cell BK391.out 1).trans rfl, (blk_cell BK391.out 2).trans rfl, (blk_cell BK391.out 3).trans rfl, (blk_cell BK398.out 0).trans rfl, (blk_cell BK398.out 1).trans rfl, (blk_cell BK398.out 2).trans rfl, (blk_cell BK398.out 3).trans rfl⟩ (fun hHeld => ?_); refine with_tabW spec_DrawLiveValue.tab4 spec_DrawLiveValue.bits4 (fun HT_ HW_ => ?_)
 generalize w24.drew = w25 at HO383 HO388 BK375 BK376 BK391 BK398 HI380 HB hHeld ⊢
 refine pu_ (i := 2) (N := some 17) #[false, false, true, false, false, false, false, false] HT_ ?_
 refine tk_ (i := 0) (N := some 15) #[true, false, true, false, false, false, false, false] rfl rfl HT_ HW_ hHeld ?_
 refine take_ (i := 1) (N := some 16) (v := ?_) (a' := ?_) #[true, true, true, false, false, false, false, false] rfl rfl (take_ofW HT_.out HW_.out KR) (fun _ _ _ h => h) (Or.inl ⟨by rfl, ?_⟩) hHeld ?_ ?_
 rotate_left
 ·rintro w' ⟨s0, s1, s2, s3, s4, s5, s6, s7⟩
  go_simp
  with_reducible rfl
 rotate_left
 ·simp only [Act.put, List.setIfInBounds_toArray, List.set_cons_zero, List.set_cons_succ, i64_w, i32_w]
  rfl
 refine one_ (i := 3) (N := some 18) #[true, true, true, true, false, false, false, false] rfl rfl (one_of HT_.out KR) (by decide) (fun K hK => ?_)
 refine Kd.R_lit_step (Kd.int .i64) _ 3 ?hg (N := 18) ?hd (xs := ([0, 1, 2, 5, 100, 101, (-1)] : List Int)) (inner := [.int .i64 0, .int .i64 1, .int .i64 2, .int .i64 5, .int .i64 100, .int .i64 101, .int .i64 (-1)]) (ok := fun _ => True) (okp := fun _ => True) ?hr ?hp (fun _ hk => hk) trivial (Below.refl _ _) (Nat.le_refl _) (by simp) ?_; (case hd => rfl); (case hg => rfl); (case hr => first | (go_simp; done) | (go_simp; rfl)); (case hp => exact (Reps.one (show Kd.M (Kd.int .i64) _ _ _ 0 [.int .i64 0] from rfl) (Reps.one (show Kd.M (Kd.int .i64) _ _ _ 1 [.int .i64 1] from rfl) (Reps.one (show Kd.M (Kd.int .i64) _ _ _ 2 [.int .i64 2] from rfl) (Reps.one (show Kd.M (Kd.int .i64) _ _ _ 5 [.int .i64 5] from rfl) (Reps.one (show Kd.M (Kd.int .i64) _ _ _ 100 [.int .i64 100] from rfl) (Reps.one (show Kd.M (Kd.int .i64) _ _ _ 101 [.int .i64 101] from rfl) (Reps.one (show Kd.M (Kd.int .i64) _ _ _ (-1) [.int .i64 (-1)] from rfl) (Reps.none _ _)))))))))
 intro v400 w26 ho27 hb hg_ hnew_
 clear hg_ hnew_
 (first | rw [← Ny399.out] at ho27 | (simp only [Int.reduceToNat] at ho27; rw [← Ny399.out] at ho27))
 replace HO383 := ak (Kd.S_elder' (PS HO383) (Kd.R_base ho27) hb)
 have HO401 := ak (Kd.R_lower (Kd.R_new' ho27 (Kd.R_lt (PR HO388))) (below_size (by repeat (first | (with_reducible first | exact HB.out | apply below_alloc | apply pw_below_drewN | apply below_drew1 | refine below_set ?_ (IsS158.ge HI380.out) | refine below_set ?_ GE375.out | refine below_set ?_ GE376.out | refine below_set ?_ GE391.out | refine below_set ?_ GE398.out) | exact HB.out))))
 replace HO388 := ak (Kd.R_elder' (PR HO388) (Kd.R_base ho27) hb)
 replace BK375 := kf BK375 hb
 replace BK376 := kf BK376 hb
 replace BK391 := kf BK391 hb
 replace BK398 := kf BK398 hb
 replace HB := ak (below_step (by repeat (first | (with_reducible first | exact HB.out | apply below_alloc | apply pw_below_drewN | apply below_drew1 | refine below_set ?_ (IsS158.ge HI380.out) | refine below_set ?_ GE375.out | refine below_set ?_ GE376.out | refine below_set ?_ GE391.out | refine below_set ?_ GE398.out) | exact HB.out)) hb)
 replace HI380 := ak (IsS158.below (by repeat (first | (with_reducible first | exact HI380.out | apply IsS158.alloc | apply IsS158.drewN | apply IsS158.drew | apply IsS158.set_1 | apply IsS158.set_2 | refine IsS158.far ?_ NB380_375.out _ | refine IsS158.far ?_ NB380_376.out _ | refine IsS158.far ?_ NB380_391.out _ | refine IsS158.far ?_ NB380_398.out _) | exact HI380.out)) hb)
 clear hb ho27
 obtain ⟨Ao28, co28, eo28⟩ := Kd.R_slice HO401.out
 (first | subst eo28 | (injection eo28 with f1_ f2_ f3_; have f4_ := f1_.symm; have f5_ := f3_.symm; clear f1_ f2_ f3_; subst f4_; subst f5_))
 refine hK.out _ _ ⟨(blk_cell BK391.out 0).trans rfl, (blk_cell BK391.out 1).trans rfl, (blk_cell BK391.out 2).trans rfl, (blk_cell BK391.out 3).trans rfl, (blk_cell BK398.out 0).trans rfl, (blk_cell BK398.out 1).trans rfl, (blk_cell BK398.out 2).trans rfl, (blk_cell BK398.out 3).trans rfl⟩ (fun hHeld => ?_)
 clear hK K
 refine norm_ (a' := ?_) ?_ ?_
 rotate_left
 ·show Act.put _ (some 18) _ = _
  simp only [Act.put, List.setIfInBounds_toArray, List.set_cons_zero, List.set_cons_succ, i64_w, i32_w]
  rfl
 refine one_ (i := 4) (N := some 19) #[true, true, true, true, true, false, false, false] rfl rfl (one_of HT_.out KR) (by decide) (fun K hK => ?_)
 refine goes_ Try.func67 KR rfl #[.pointer (some ⟨g380, 0, none⟩), .slice Ao28 y399.length co28] (by rfl) rfl rfl AR ?_
 with_reducible refine (spec_l1Int.calls g380 t377 t396 t397 _ _ y399 t402 t403 t404 w _ ?side1 ?side2 ?side3 ?side4 ?side5 A5.out).mono ?_
 (case side1 => repeat (first | (with_reducible first | exact HI380.out | apply IsS158.alloc | apply IsS158.drewN | apply IsS158.drew | apply IsS158.set_1 | apply IsS158.set_2 | refine IsS158.far ?_ NB380_375.out _ | refine IsS158.far ?_ NB380_376.out _ | refine IsS158.far ?_ NB380_391.out _ | refine IsS158.far ?_ NB380_398.out _) | exact HI380.out))
 (case side2 => repeat (first | (with_reducible first | exact HB.out | apply below_alloc | apply pw_below_drewN | apply below_drew1 | refine below_set ?_ (IsS158.ge HI380.out) | refine below_set ?_ GE375.out | refine below_set ?_ GE376.out | refine below_set ?_ GE391.out | refine below_set ?_ GE398.out) | exact HB.out))
 (case side3 => exact CR ((Kd.R_reads' HO401.out).2.2))
 (case side4 => exact (Kd.R_reads' HO401.out).2.1)
 (case side5 => exact far_slice (IsS158.own_ne HI380.out HO401.out (by decide)))
 rintro e w29 ⟨rfl, hi, hb, hk⟩
 refine ⟨_, rfl, ?_⟩
 replace BK375 := kq hk BK375 NB375_380
 replace BK376 := kq hk BK376 NB376_380
 replace HO383 := Sk (IsS158.apartS (show IsS158 w _ g380 t377 t396 t397 from by repeat (first | (with_reducible first | exact HI380.out | apply IsS158.alloc | apply IsS158.drewN | apply IsS158.drew | apply IsS158.set_1 | apply IsS158.set_2 | refine IsS158.far ?_ NB380_375.out _ | refine IsS158.far ?_ NB380_376.out _ | refine IsS158.far ?_ NB380_391.out _ | refine IsS158.far ?_ NB380_398.out _) | exact HI380.out)) (PS HO383) (by decide)) hk
 replace HO388 := Rk (IsS158.apart (show IsS158 w _ g380 t377 t396 t397 from by repeat (first | (with_reducible first | exact HI380.out | apply IsS158.alloc | apply IsS158.drewN | apply IsS158.drew | apply IsS158.set_1 | apply IsS158.set_2 | refine IsS158.far ?_ NB380_375.out _ | refine IsS158.far ?_ NB380_376.out _ | refine IsS158.far ?_ NB380_391.out _ | refine IsS158.far ?_ NB380_398.out _) | exact HI380.out)) (PR HO388) (by decide)) hk
 replace BK391 := kq hk BK391 NB391_380
 replace BK398 := kq hk BK398 NB398_380
 replace HO401 := Rk (IsS158.apart (show IsS158 w _ g380 t377 t396 t397 from by repeat (first | (with_reducible first | exact HI380.out | apply IsS158.alloc | apply IsS158.drewN | apply IsS158.drew | apply IsS158.set_1 | apply IsS158.set_2 | refine IsS158.far ?_ NB380_375.out _ | refine IsS158.far ?_ NB380_376.out _ | refine IsS158.far ?_ NB380_391.out _ | refine IsS158.far ?_ NB380_398.out _) | exact HI380.out)) (PR HO401) (by decide)) hk
 replace HB := ak hb
 replace HI380 := ak (hi)
 (try clear hb)
 (try clear hb2)
 (try clear hk)
 (try clear hi)
 refine hK.out _ _ ⟨(blk_cell BK391.out 0).trans rfl, (blk_cell BK391.out 1).trans rfl, (blk_cell BK391.out 2).trans rfl, (blk_cell BK391.out 3).trans rfl, (blk_cell BK398.out 0).trans rfl, (blk_cell BK398.out 1).trans rfl, (blk_cell BK398.out 2).trans rfl, (blk_cell BK398.out 3).trans rfl⟩ (fun hHeld => ?_)
 clear hK K
 refine norm_ (a' := ?_) ?_ ?_
 rotate_left
 ·show Act.put _ (some 19) _ = _
  simp only [Act.put, List.setIfInBounds_toArray, List.set_cons_zero, List.set_cons_succ, i64_w, i32_w]
  rfl
 refine one_ (i := 5) (N := none) #[true, true, true, true, true, true, false, false] rfl rfl (one_of HT_.out KR) (by decide) (fun K hK => ?_)
 have hs30 : w29.cell? ⟨gb375, 0, none⟩ = some (.slice none 0 0) := (blk_cell BK375.out 0).trans rfl
 have hfs30 := blk_frozen BK375.out 0
 have hns30_1 := NB376_375.out
 have hns30_2 := NB391_375.out
 have hns30_3 := NB398_375.out
 have hms30_1 := NB375_376.out
 have hms30_2 := NB375_391.out
 have hms30_3 := NB375_398.out
 have hs31 : w29.cell? ⟨gb375, 1, none⟩ = some (.int .i64 0) := (blk_cell BK375.out 1).trans rfl
 have hfs31 := blk_frozen BK375.out 1
 have hns31_1 := NB376_375.out
 have hns31_2 := NB391_375.out
 have hns31_3 := NB398_375.out
 have hms31_1 := NB375_376.out
 have hms31_2 := NB375_391.out
 have hms31_3 := NB375_398.out
 have hs32 : w29.cell? ⟨gb375, 2, none⟩ = some (.int .i64 0) := (blk_cell BK375.out 2).trans rfl
 have hfs32 := blk_frozen BK375.out 2
 have hns32_1 := NB376_375.out
 have hns32_2 := NB391_375.out
 have hns32_3 := NB398_375.out
 have hms32_1 := NB375_376.out
 have hms32_2 := NB375_391.out
 have hms32_3 := NB375_398.out
 have hs33 : w29.cell? ⟨gb375, 3, none⟩ = some (.slice none 0 0) := (blk_cell BK375.out 3).trans rfl
 have hfs33 := blk_frozen BK375.out 3
 have hns33_1 := NB376_375.out
 have hns33_2 := NB391_375.out
 have hns33_3 := NB398_375.out
 have hms33_1 := NB375_376.out
 have hms33_2 := NB375_391.out
 have hms33_3 := NB375_398.out
 refine skip_ (w1 := ?_) (by rfl) rfl ?_ ?_
 rotate_left
 ·go_simp
  rfl
 refine hK.out _ _ ⟨((cell_far (p := ⟨gb375, _, none⟩) NB391_375.out _).trans (((cell_far (p := ⟨gb375, _, none⟩) NB391_375.out _).trans (((cell_far (p := ⟨gb375, _, none⟩) NB391_375.out _).trans (((cell_far (p := ⟨gb375, _, none⟩) NB391_375.out _).trans (hHeld.1)))))))), ((cell_far (p := ⟨gb375, _, none⟩) NB391_375.out _).trans (((cell_far (p := ⟨gb375, _, none⟩) NB391_375.out _).trans (((cell_far (p := ⟨gb375, _, none⟩) NB391_375.out _).trans (((cell_far (p := ⟨gb375, _, none⟩) NB391_375.out _).trans (hHeld.2.1)))))))), ((cell_far (p := ⟨gb375, _, none⟩) NB391_375.out _).trans (((cell_far (p := ⟨gb375, _, none⟩) NB391_375.out _).trans (((cell_far (p := ⟨gb375, _, none⟩) NB391_375.out _).trans (((cell_far (p := ⟨gb375, _, none⟩) NB391_375.out _).trans (hHeld.2.2.1)))))))), ((cell_far (p := ⟨gb375, _, none⟩) NB391_375.out _).trans (((cell_far (p := ⟨gb375, _, none⟩) NB391_375.out _).trans (((cell_far (p := ⟨gb375, _, none⟩) NB391_375.out _).trans (((cell_far (p := ⟨gb375, _, none⟩) NB391_375.out _).trans (hHeld.2.2.2.1)))))))), ((cell_far (p := ⟨gb375, _, none⟩) NB398_375.out _).trans (((cell_far (p := ⟨gb375, _, none⟩) NB398_375.out _).trans (((cell_far (p := ⟨gb375, _, none⟩) NB398_375.out _).trans (((cell_far (p := ⟨gb375, _, none⟩) NB398_375.out _).trans (hHeld.2.2.2.2.1)))))))), ((cell_far (p := ⟨gb375, _, none⟩) NB398_375.out _).trans (((cell_far (p := ⟨gb375, _, none⟩) NB398_375.out _).trans (((cell_far (p := ⟨gb375, _, none⟩) NB398_375.out _).trans (((cell_far (p := ⟨gb375, _, none⟩) NB398_375.out _).trans (hHeld.2.2.2.2.2.1)))))))), ((cell_far (p := ⟨gb375, _, none⟩) NB398_375.out _).trans (((cell_far (p := ⟨gb375, _, none⟩) NB398_375.out _).trans (((cell_far (p := ⟨gb375, _, none⟩) NB398_375.out _).trans (((cell_far (p := ⟨gb375, _, none⟩) NB398_375.out _).trans (hHeld.2.2.2.2.2.2.1)))))))), ((cell_far (p := ⟨gb375, _, none⟩) NB398_375.out _).trans (((cell_far (p := ⟨gb375, _, none⟩) NB398_375.out _).trans (((cell_far (p := ⟨gb375, _, none⟩) NB398_375.out _).trans (((cell_far (p := ⟨gb375, _, none⟩) NB398_375.out _).trans (hHeld.2.2.2.2.2.2.2))))))))⟩ (fun hHeld => ?_)
 clear hK K
 refine one_ (i := 6) (N := none) #[true, true, true, true, true, true, true, false] rfl rfl (one_of HT_.out KR) (by decide) (fun K hK => ?_)
 have hs34 : w29.cell? ⟨gb376, 0, none⟩ = some (.int .i64 0) := (blk_cell BK376.out 0).trans rfl
 have hfs34 := blk_frozen BK376.out 0
 have hns34_0 := NB375_376.out
 have hns34_2 := NB391_376.out
 have hns34_3 := NB398_376.out
 have hms34_0 := NB376_375.out
 have hms34_2 := NB376_391.out
 have hms34_3 := NB376_398.out
 have hs35 : w29.cell? ⟨gb376, 1, none⟩ = some (.int .i64 0) := (blk_cell BK376.out 1).trans rfl
 have hfs35 := blk_frozen BK376.out 1
 have hns35_0 := NB375_376.out
 have hns35_2 := NB391_376.out
 have hns35_3 := NB398_376.out
 have hms35_0 := NB376_375.out
 have hms35_2 := NB376_391.out
 have hms35_3 := NB376_398.out
 have hs36 : w29.cell? ⟨gb376, 2, none⟩ = some (.int .i64 0) := (blk_cell BK376.out 2).trans rfl
 have hfs36 := blk_frozen BK376.out 2
 have hns36_0 := NB375_376.out
 have hns36_2 := NB391_376.out
 have hns36_3 := NB398_376.out
 have hms36_0 := NB376_375.out
 have hms36_2 := NB376_391.out
 have hms36_3 := NB376_398.out
 have hs37 : w29.cell? ⟨gb376, 3, none⟩ = some (.int .i64 0) := (blk_cell BK376.out 3).trans rfl
 have hfs37 := blk_frozen BK376.out 3
 have hns37_0 := NB375_376.out
 have hns37_2 := NB391_376.out
 have hns37_3 := NB398_376.out
 have hms37_0 := NB376_375.out
 have hms37_2 := NB376_391.out
 have hms37_3 := NB376_398.out
 refine skip_ (w1 := ?_) (by rfl) rfl ?_ ?_
 rotate_left
 ·go_simp
  rfl
 refine hK.out _ _ ⟨((cell_far (p := ⟨gb376, _, none⟩) NB391_376.out _).trans (((cell_far (p := ⟨gb376, _, none⟩) NB391_376.out _).trans (((cell_far (p := ⟨gb376, _, none⟩) NB391_376.out _).trans (((cell_far (p := ⟨gb376, _, none⟩) NB391_376.out _).trans (hHeld.1)))))))), ((cell_far (p := ⟨gb376, _, none⟩) NB391_376.out _).trans (((cell_far (p := ⟨gb376, _, none⟩) NB391_376.out _).trans (((cell_far (p := ⟨gb376, _, none⟩) NB391_376.out _).trans (((cell_far (p := ⟨gb376, _, none⟩) NB391_376.out _).trans (hHeld.2.1)))))))), ((cell_far (p := ⟨gb376, _, none⟩) NB391_376.out _).trans (((cell_far (p := ⟨gb376, _, none⟩) NB391_376.out _).trans (((cell_far (p := ⟨gb376, _, none⟩) NB391_376.out _).trans (((cell_far (p := ⟨gb376, _, none⟩) NB391_376.out _).trans (hHeld.2.2.1)))))))), ((cell_far (p := ⟨gb376, _, none⟩) NB391_376.out _).trans (((cell_far (p := ⟨gb376, _, none⟩) NB391_376.out _).trans (((cell_far (p := ⟨gb376, _, none⟩) NB391_376.out _).trans (((cell_far (p := ⟨gb376, _, none⟩) NB391_376.out _).trans (hHeld.2.2.2.1)))))))), ((cell_far (p := ⟨gb376, _, none⟩) NB398_376.out _).trans (((cell_far (p := ⟨gb376, _, none⟩) NB398_376.out _).trans (((cell_far (p := ⟨gb376, _, none⟩) NB398_376.out _).trans (((cell_far (p := ⟨gb376, _, none⟩) NB398_376.out _).trans (hHeld.2.2.2.2.1)))))))), ((cell_far (p := ⟨gb376, _, none⟩) NB398_376.out _).trans (((cell_far (p := ⟨gb376, _, none⟩) NB398_376.out _).trans (((cell_far (p := ⟨gb376, _, none⟩) NB398_376.out _).trans (((cell_far (p := ⟨gb376, _, none⟩) NB398_376.out _).trans (hHeld.2.2.2.2.2.1)))))))), ((cell_far (p := ⟨gb376, _, none⟩) NB398_376.out _).trans (((cell_far (p := ⟨gb376, _, none⟩) NB398_376.out _).trans (((cell_far (p := ⟨gb376, _, none⟩) NB398_376.out _).trans (((cell_far (p := ⟨gb376, _, none⟩) NB398_376.out _).trans (hHeld.2.2.2.2.2.2.1)))))))), ((cell_far (p := ⟨gb376, _, none⟩) NB398_376.out _).trans (((cell_far (p := ⟨gb376, _, none⟩) NB398_376.out _).trans (((cell_far (p := ⟨gb376, _, none⟩) NB398_376.out _).trans (((cell_far (p := ⟨gb376, _, none⟩) NB398_376.out _).trans (hHeld.2.2.2.2.2.2.2))))))))⟩ (fun hHeld => ?_)
 clear hK K
 refine pu_ (i := 7) (N := some 4) #[true, true, true, true, true, true, true, true] HT_ ?_
 refine done_ (done_of HT_.out KR) ?_
 try go_wp2
 refine bodyPost_ret (results_list (rs := [.cell 2 61, .cell 3 50, .tmp 4]) rfl (by simp) (.cell gb375 61 #[.slice Ao11 t381.length co11, .int .i64 t384, .int .i64 t385, .slice Ao16 t386.length co16] (0, 0) _ rfl (PX BK375) Try.underlying61 rfl KR (.cell gb376 50 #[.int .i64 t392, .int .i64 t393, .int .i64 t394, .int .i64 t395] (0, 0) _ rfl (PX BK376) Try.underlying50 rfl KR (.tmp .nil)))) rfl ?_
 exact ⟨_, _, RT, SX (St (St HO383.out BK375) BK376) (fun _ hk => by first | exact hk.1.1.1 | simp_all), RX (Rt (Rt HO388.out BK375) BK376) (fun _ hk => trivial), by repeat (first | (with_reducible first | exact HB.out | apply below_alloc | apply pw_below_drewN | apply below_drew1 | refine below_set ?_ (IsS158.ge HI380.out) | refine below_set ?_ GE375.out | refine below_set ?_ GE376.out | refine below_set ?_ GE391.out | refine below_set ?_ GE398.out) | exact HB.out)⟩

/-! ### impl_InRange: function 69 -/
def impl_InRange.f (a0 : Int) (a1 : Int) (a2 : Int) : Option (Bool) := if a1 ≤ a0 then (some (decide (a0 ≤ a2))) else (some false)
set_option maxHeartbeats 8000000 in
set_option maxRecDepth 100000 in
theorem impl_InRange.calls (a0 : Int) (a1 : Int) (a2 : Int) (r : Bool) (w : World) (h : impl_InRange.f a0 a1 a2 = some r) :
  Calls Try.prog 69 #[.int .i64 a0, .int .i64 a1, .int .i64 a2] w fun e w' => e = .returned (.bool r) ∧ Drawn0 w w' := by
 have H : (if a1 ≤ a0 then (some (decide (a0 ≤ a2))) else (some false)) = some r := h
 clear h
 by_cases c4 : a1 ≤ a0
 ·rw [if_pos c4] at H
  have c4b0 : decide (a1 ≤ a0) = true := decide_eq_true c4
  clear c4
  obtain rfl := Option.some.inj H
  go_enter Try.func69, Try.ntmps69
  go_wp2
  go_ret
  exact ⟨by first | rfl | (simp; done) | (simp [*]; done), by repeat (first | exact Drawn0.refl _ | apply Drawn0.step)⟩
 ·rw [if_neg c4] at H
  have c4b0 : decide (a1 ≤ a0) = false := decide_eq_false c4
  clear c4
  obtain rfl := Option.some.inj H
  go_enter Try.func69, Try.ntmps69
  go_wp2
  go_ret
  exact ⟨by first | rfl | (simp; done) | (simp [*]; done), by repeat (first | exact Drawn0.refl _ | apply Drawn0.step)⟩

/-! ### impl_allIn: function 82 -/
def impl_allIn.l0 : Nat → Int → Int → List Int → Int → Int → Option (Bool)
  | 0, _, _, _, _, _ => none
  | k + 1, x1, x2, x9, x10, x11 => if x11 < x10 then (if 0 ≤ x11 then (if x11 < (x9.length : Int) then ((impl_InRange.f (rd x9 x11) x1 x2).bind fun t406 => (if t406 = true then (impl_allIn.l0 k x1 x2 x9 x10 (wrap64 (x11 + 1))) else (some false))) else (none)) else (none)) else (some true)
def impl_allIn.f (k : Nat) (l0 : List Int) (a1 : Int) (a2 : Int) : Option (Bool) := impl_allIn.l0 k a1 a2 l0 (l0.length : Int) 0
set_option maxHeartbeats 8000000 in
set_option maxRecDepth 100000 in
theorem impl_allIn.calls (k : Nat) (A0 : Option Addr) (c0 : Nat) (l0 : List Int) (a1 : Int) (a2 : Int) (r : Bool) (w : World) (hr0 : Kd.C (Kd.int .i64) w A0 l0.length l0) (hc0 : l0.length ≤ c0) (h : impl_allIn.f k l0 a1 a2 = some r) :
  Calls Try.prog 82 #[.slice A0 l0.length c0, .int .i64 a1, .int .i64 a2] w fun e w' => e = .returned (.bool r) ∧ Drawn0 w w' := by
 have HR0 := Aside0.mk hr0
 have HC0 := Aside0.mk hc0
 clear hr0 hc0
 have H : (impl_allIn.l0 k a1 a2 l0 (l0.length : Int) 0) = some r := h
 clear h
 have H' := Aside0.mk H
 clear H
 go_enter Try.func82, Try.ntmps82
 go_wp2
 go_loopg [11] k (fun kq v11 w' => ∃ (x11_1 : Int), v11 = .int .i64 x11_1 ∧ Aside0 (impl_allIn.l0 kq a1 a2 l0 (l0.length : Int) x11_1 = some r) ∧ Aside0 (kq ≤ k) ∧ Drawn0 w w')
 case atStart => exact ⟨(0), (by first | rfl | (simp; done) | (simp [*]; done)), H', ⟨Nat.le_refl _⟩, by repeat (first | exact Drawn0.refl _ | apply Drawn0.step)⟩
 case round =>
  clear H'
  try clear p2
  obtain ⟨x11_1, rfl, HA, HK1, ⟨m1, rfl⟩⟩ := hrel
  cases gk with
  | zero => exact absurd HA.out (by simp [impl_allIn.l0])
  | succ k1 =>
   have H := HA.out
   clear HA
   simp only [impl_allIn.l0] at H
   by_cases c4 : x11_1 < (l0.length : Int)
   ·rw [if_pos c4] at H
    have c4b0 : decide (x11_1 < (l0.length : Int)) = true := decide_eq_true c4
    clear c4
    by_cases c5 : 0 ≤ x11_1
    ·rw [if_pos c5] at H
     have c5b0 : decide (0 ≤ x11_1) = true := decide_eq_true c5
     clear c5
     by_cases c6 : x11_1 < (l0.length : Int)
     ·rw [if_pos c6] at H
      have c6b0 : decide (x11_1 < (l0.length : Int)) = true := decide_eq_true c6
      clear c6
      replace H := Option.bind_eq_some_iff.mp H
      obtain ⟨t406, A70, H⟩ := H
      replace H : (if t406 = true then (impl_allIn.l0 k1 a1 a2 l0 (l0.length : Int) (wrap64 (x11_1 + 1))) else (some false)) = some r := H
      have A7 := Aside0.mk A70
      clear A70
      by_cases c8 : t406 = true
      ·subst c8
       have H1 : (impl_allIn.l0 k1 a1 a2 l0 (l0.length : Int) (wrap64 (x11_1 + 1))) = some r := by rw [if_pos rfl] at H; exact H
       clear H
       have H := H1
       clear H1
       have H' := Aside0.mk H
       clear H
       have p405 : 0 ≤ (x11_1 : Int) := of_decide_eq_true (by first | (with_reducible assumption) | assumption)
       have q405 : x11_1 < (l0.length : Int) := of_decide_eq_true (by first | (with_reducible assumption) | assumption)
       obtain ⟨ad405, e405, hx405_0⟩ := Kd.at_int HR0.out x11_1 p405 q405
       cases e405
       replace p405 := eq_true p405
       replace q405 := eq_true q405
       go_wp2_with (first | ((with_reducible refine gate_callee (f := 69) rfl ?_); refine goesL_ (some 18) rfl rfl Try.func69 KR rfl #[.int .i64 (rd l0 x11_1), .int .i64 a1, .int .i64 a2] rfl AR ?_; (with_reducible refine (impl_InRange.calls (rd l0 x11_1) a1 a2 true _ A7.out).mono ?_); rintro e w' ⟨rfl, ⟨nd, rfl⟩⟩; refine ⟨_, rfl, ?_⟩))
       go_roundg k1
       case measure => have := HK1.out; omega
       case rel => exact ⟨(wrap64 (x11_1 + 1)), (by first | rfl | (simp; done) | (simp [*]; done)), H', ⟨by have := HK1.out; omega⟩, by repeat (first | exact Drawn0.refl _ | apply Drawn0.step)⟩
      ·replace c8 := Bool.eq_false_iff.mpr c8
       subst c8
       have H1 : (some false) = some r := by rw [if_neg (show ¬ (false = true) by decide)] at H; exact H
       clear H
       have H := H1
       clear H1
       obtain rfl := Option.some.inj H
       have p405 : 0 ≤ (x11_1 : Int) := of_decide_eq_true (by first | (with_reducible assumption) | assumption)
       have q405 : x11_1 < (l0.length : Int) := of_decide_eq_true (by first | (with_reducible assumption) | assumption)
       obtain ⟨ad405, e405, hx405_0⟩ := Kd.at_int HR0.out x11_1 p405 q405
       cases e405
       replace p405 := eq_true p405
       replace q405 := eq_true q405
       go_wp2_with (first | ((with_reducible refine gate_callee (f := 69) rfl ?_); refine goesL_ (some 18) rfl rfl Try.func69 KR rfl #[.int .i64 (rd l0 x11_1), .int .i64 a1, .int .i64 a2] rfl AR ?_; (with_reducible refine (impl_InRange.calls (rd l0 x11_1) a1 a2 false _ A7.out).mono ?_); rintro e w' ⟨rfl, ⟨nd, rfl⟩⟩; refine ⟨_, rfl, ?_⟩))
       go_ret
       exact ⟨by first | rfl | (simp; done) | (simp [*]; done), by repeat (first | exact Drawn0.refl _ | apply Drawn0.step)⟩
     ·rw [if_neg c6] at H
      exact absurd H (by simp)
    ·rw [if_neg c5] at H
     exact absurd H (by simp)
   ·rw [if_neg c4] at H
    have c4b0 : decide (x11_1 < (l0.length : Int)) = false := decide_eq_false c4
    clear c4
    obtain rfl := Option.some.inj H
    go_wp2
    go_ret
    exact ⟨by first | rfl | (simp; done) | (simp [*]; done), by repeat (first | exact Drawn0.refl _ | apply Drawn0.step)⟩

/-! ### impl_IsAddress: function 27 -/
def impl_IsAddress.f (a0_0 : Int) (a0_1 : Int) (a0_2 : Int) : Option (Bool) := (impl_InRange.f a0_0 1 9).bind fun t408 => (if t408 = true then ((impl_InRange.f a0_1 0 99).bind fun t409 => (if t409 = true then ((impl_InRange.f a0_2 0 99).bind fun t410 => (some t410)) else (some false))) else (some false))
set_option maxHeartbeats 8000000 in
set_option maxRecDepth 100000 in
theorem impl_IsAddress.calls (a0_0 : Int) (a0_1 : Int) (a0_2 : Int) (r : Bool) (w : World) (h : impl_IsAddress.f a0_0 a0_1 a0_2 = some r) :
  Calls Try.prog 27 #[.agg #[.int .i64 a0_0, .int .i64 a0_1, .int .i64 a0_2]] w fun e w' => e = .returned (.bool r) ∧ Below w.heap.size w w' := by
 have hu26 := Try.underlying26
 have HB := ak (Below.refl w.heap.size w)
 have H : ((impl_InRange.f a0_0 1 9).bind fun t408 => (if t408 = true then ((impl_InRange.f a0_1 0 99).bind fun t409 => (if t409 = true then ((impl_InRange.f a0_2 0 99).bind fun t410 => (some t410)) else (some false))) else (some false))) = some r := h
 clear h
 replace H := Option.bind_eq_some_iff.mp H
 obtain ⟨t408, A20, H⟩ := H
 replace H : (if t408 = true then ((impl_InRange.f a0_1 0 99).bind fun t409 => (if t409 = true then ((impl_InRange.f a0_2 0 99).bind fun t410 => (some t410)) else (some false))) else (some false)) = some r := H
 have A2 := Aside0.mk A20
 clear A20
 by_cases c3 : t408 = true
 ·subst c3
  have H1 : ((impl_InRange.f a0_1 0 99).bind fun t409 => (if t409 = true then ((impl_InRange.f a0_2 0 99).bind fun t410 => (some t410)) else (some false))) = some r := by rw [if_pos rfl] at H; exact H
  clear H
  have H := H1
  clear H1
  replace H := Option.bind_eq_some_iff.mp H
  obtain ⟨t409, A40, H⟩ := H
  replace H : (if t409 = true then ((impl_InRange.f a0_2 0 99).bind fun t410 => (some t410)) else (some false)) = some r := H
  have A4 := Aside0.mk A40
  clear A40
  by_cases c5 : t409 = true
  ·subst c5
   have H1 : ((impl_InRange.f a0_2 0 99).bind fun t410 => (some t410)) = some r := by rw [if_pos rfl] at H; exact H
   clear H
   have H := H1
   clear H1
   replace H := Option.bind_eq_some_iff.mp H
   obtain ⟨t410, A60, H⟩ := H
   replace H : (some t410) = some r := H
   have A6 := Aside0.mk A60
   clear A60
   obtain rfl := Option.some.inj H
   go_enter Try.func27, Try.ntmps27
   go_wp2_with (first | ((with_reducible refine gate_dst (N := 1) rfl ?_); refine bx_ (N := 1) #[.int .i64 a0_0, .int .i64 a0_1, .int .i64 a0_2] 26 ?_; intro gb407 hg w7 hbox hb; have BK407 := ak hbox; have GW407 := gy hg HB; have GE407 := gy hg HB; replace HB := bs HB hb; clear hb hbox hg; obtain ⟨_, _, _, _, _, _⟩ := bc3 BK407) | ((with_reducible refine gate_callee (f := 69) rfl ?_); refine goesL_ (some 5) rfl rfl Try.func69 KR rfl #[.int .i64 a0_0, .int .i64 1, .int .i64 9] rfl AR ?_; (with_reducible refine (impl_InRange.calls a0_0 1 9 true _ A2.out).mono ?_); rintro e w' ⟨rfl, ⟨nd, rfl⟩⟩; refine ⟨_, rfl, ?_⟩) | (go_at_call 69; (with_reducible refine (impl_InRange.calls a0_1 0 99 true _ A4.out).mono ?_); rintro e w' ⟨rfl, ⟨nd, rfl⟩⟩) | (go_at_call 69; (with_reducible refine (impl_InRange.calls a0_2 0 99 t410 _ A6.out).mono ?_); rintro e w' ⟨rfl, ⟨nd, rfl⟩⟩))
   go_ret
   exact ⟨RT, PB⟩
  ·replace c5 := Bool.eq_false_iff.mpr c5
   subst c5
   have H1 : (some false) = some r := by rw [if_neg (show ¬ (false = true) by decide)] at H; exact H
   clear H
   have H := H1
   clear H1
   obtain rfl := Option.some.inj H
   go_enter Try.func27, Try.ntmps27
   go_wp2_with (first | ((with_reducible refine gate_dst (N := 1) rfl ?_); refine bx_ (N := 1) #[.int .i64 a0_0, .int .i64 a0_1, .int .i64 a0_2] 26 ?_; intro gb407 hg w9 hbox hb; have BK407 := ak hbox; have GW407 := gy hg HB; have GE407 := gy hg HB; replace HB := bs HB hb; clear hb hbox hg; obtain ⟨_, _, _, _, _, _⟩ := bc3 BK407) | ((with_reducible refine gate_callee (f := 69) rfl ?_); refine goesL_ (some 5) rfl rfl Try.func69 KR rfl #[.int .i64 a0_0, .int .i64 1, .int .i64 9] rfl AR ?_; (with_reducible refine (impl_InRange.calls a0_0 1 9 true _ A2.out).mono ?_); rintro e w' ⟨rfl, ⟨nd, rfl⟩⟩; refine ⟨_, rfl, ?_⟩) | (go_at_call 69; (with_reducible refine (impl_InRange.calls a0_1 0 99 false _ A4.out).mono ?_); rintro e w' ⟨rfl, ⟨nd, rfl⟩⟩))
   go_ret
   exact ⟨RT, PB⟩
 ·replace c3 := Bool.eq_false_iff.mpr c3
  subst c3
  have H1 : (some false) = some r := by rw [if_neg (show ¬ (false = true) by decide)] at H; exact H
  clear H
  have H := H1
  clear H1
  obtain rfl := Option.some.inj H
  go_enter Try.func27, Try.ntmps27
  go_wp2_with (first | ((with_reducible refine gate_dst (N := 1) rfl ?_); refine bx_ (N := 1) #[.int .i64 a0_0, .int .i64 a0_1, .int .i64 a0_2] 26 ?_; intro gb407 hg w11 hbox hb; have BK407 := ak hbox; have GW407 := gy hg HB; have GE407 := gy hg HB; replace HB := bs HB hb; clear hb hbox hg; obtain ⟨_, _, _, _, _, _⟩ := bc3 BK407) | ((with_reducible refine gate_callee (f := 69) rfl ?_); refine goesL_ (some 5) rfl rfl Try.func69 KR rfl #[.int .i64 a0_0, .int .i64 1, .int .i64 9] rfl AR ?_; (with_reducible refine (impl_InRange.calls a0_0 1 9 false _ A2.out).mono ?_); rintro e w' ⟨rfl, ⟨nd, rfl⟩⟩; refine ⟨_, rfl, ?_⟩))
  go_ret
  exact ⟨RT, PB⟩

end Go.Proofs.Ytgcamebeonodeaa.MFnVisits
