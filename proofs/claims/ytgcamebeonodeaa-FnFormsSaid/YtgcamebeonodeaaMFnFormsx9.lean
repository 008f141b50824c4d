-- Written by a program of this session out of the translation's own print. Not trusted: Lean checks it.
import Derived.Test.YtgcamebeonodeaaShr2
import Derived.Test.YtgcamebeonodeaaMFnFormsx0
import Derived.Test.YtgcamebeonodeaaMFnFormsx1
import Derived.Test.YtgcamebeonodeaaMFnFormsx6
import Derived.Test.YtgcamebeonodeaaMFnFormsx7
import Derived.Test.YtgcamebeonodeaaMFnFormsx8
namespace Go.Proofs.Ytgcamebeonodeaa.MFnForms
open Go.RowKit Go.Proofs.YtgcamebeonodeaaW.PrintWords Go.Proofs.YtgcamebeonodeaaW.PrintLast Go.Proofs.YtgcamebeonodeaaW.PrintMore
attribute [local go_sem] max2_int min2_int max_two min_two max_three min_three max_four min_four   -- for this text's walks alone
set_option linter.unusedVariables false
set_option linter.unusedSimpArgs false

attribute [local go_sem high] eqA26
/-! ### spec_DrawLearnForm: function 54 -/
def spec_DrawLearnForm.j0 : Nat → List (S40) → List Int → Int → Int → Int → Int → Int → Option ((List (S40)) × Int × Int × Int)
  | 0, _, _, _, _, _, _, _ => none
  | k + 1, x5, x392000, x392001, x392002, x401000, x401001, x401002 => (spec_l1Once.f x392000 x392001 x392002 10).bind fun bt409 => (if bt409.1 = true then ((spec_l4Any.f x392000 bt409.2.1 bt409.2.2).bind fun bt412 => (some (x5, bt412.1, bt412.2.1, bt412.2.2.1))) else (some (x5, x401000, x401001, x401002)))
def spec_DrawLearnForm.f (k : Nat) (l0 : List Int) : Option ((List (S40)) × Int × Int × Int) := (spec_l1New.f k l0).bind fun bt388 => ((spec_l19Draw.f k bt388.1 bt388.2.1 bt388.2.2).bind fun bt392 => ((spec_l1Once.f bt388.1 bt392.2.2.2.2.1 bt392.2.2.2.2.2 10).bind fun bt401 => (if bt401.1 = true then ((spec_l15Any.f k bt388.1 bt401.2.1 bt401.2.2).bind fun bt404 => (spec_DrawLearnForm.j0 k bt404.1 bt388.1 bt404.2.1 bt404.2.2 bt392.2.1 bt392.2.2.1 bt392.2.2.2.1)) else (spec_DrawLearnForm.j0 k bt392.1 bt388.1 bt401.2.1 bt401.2.2 bt392.2.1 bt392.2.2.1 bt392.2.2.2.1))))
set_option maxHeartbeats 8000000 in
set_option maxRecDepth 100000 in
theorem spec_DrawLearnForm.calls (k : Nat) (A0 : Option Addr) (c0 : Nat) (l0 : List Int) (r1 : List (S40)) (r2 : Int) (r3 : Int) (r4 : Int) (w : World) (hr0 : Kd.C (Kd.int .u8) w A0 l0.length l0) (hc0 : l0.length ≤ c0) (h : spec_DrawLearnForm.f k l0 = some (r1, r2, r3, r4)) :
  Calls Try.prog 54 #[.slice A0 l0.length c0] w fun e w' => ∃ v0_ : Value, e = .returned (.tuple #[v0_, .agg #[.int .i64 r2, .int .i64 r3, .int .i64 r4]]) ∧ Kd.S k40 40 w' w.heap.size (fun _ => True) v0_ r1 ∧ Below w.heap.size w w' := by
 have hu26 := Try.underlying26
 have HR0 := Aside0.mk hr0
 have HC0 := Aside0.mk hc0
 clear hr0 hc0
 have HB := ak (Below.refl w.heap.size w)
 have H : ((spec_l1New.f k l0).bind fun bt388 => ((spec_l19Draw.f k bt388.1 bt388.2.1 bt388.2.2).bind fun bt392 => ((spec_l1Once.f bt388.1 bt392.2.2.2.2.1 bt392.2.2.2.2.2 10).bind fun bt401 => (if bt401.1 = true then ((spec_l15Any.f k bt388.1 bt401.2.1 bt401.2.2).bind fun bt404 => (spec_DrawLearnForm.j0 k bt404.1 bt388.1 bt404.2.1 bt404.2.2 bt392.2.1 bt392.2.2.1 bt392.2.2.2.1)) else (spec_DrawLearnForm.j0 k bt392.1 bt388.1 bt401.2.1 bt401.2.2 bt392.2.1 bt392.2.2.1 bt392.2.2.2.1))))) = some (r1, r2, r3, r4) := h
 clear h
 replace H := Option.bind_eq_some_iff.mp H
 obtain ⟨⟨t388, t389, t390⟩, A20, H⟩ := H
 replace H : ((spec_l19Draw.f k t388 t389 t390).bind fun bt392 => ((spec_l1Once.f t388 bt392.2.2.2.2.1 bt392.2.2.2.2.2 10).bind fun bt401 => (if bt401.1 = true then ((spec_l15Any.f k t388 bt401.2.1 bt401.2.2).bind fun bt404 => (spec_DrawLearnForm.j0 k bt404.1 t388 bt404.2.1 bt404.2.2 bt392.2.1 bt392.2.2.1 bt392.2.2.2.1)) else (spec_DrawLearnForm.j0 k bt392.1 t388 bt401.2.1 bt401.2.2 bt392.2.1 bt392.2.2.1 bt392.2.2.2.1)))) = some (r1, r2, r3, r4) := H
 have A2 := Aside0.mk A20
 clear A20
 replace H := Option.bind_eq_some_iff.mp H
 obtain ⟨⟨t392, t395, t396, t397, t398, t399⟩, A30, H⟩ := H
 replace H : ((spec_l1Once.f t388 t398 t399 10).bind fun bt401 => (if bt401.1 = true then ((spec_l15Any.f k t388 bt401.2.1 bt401.2.2).bind fun bt404 => (spec_DrawLearnForm.j0 k bt404.1 t388 bt404.2.1 bt404.2.2 t395 t396 t397)) else (spec_DrawLearnForm.j0 k t392 t388 bt401.2.1 bt401.2.2 t395 t396 t397))) = some (r1, r2, r3, r4) := H
 have A3 := Aside0.mk A30
 clear A30
 replace H := Option.bind_eq_some_iff.mp H
 obtain ⟨⟨t401, t402, t403⟩, A40, H⟩ := H
 replace H : (if t401 = true then ((spec_l15Any.f k t388 t402 t403).bind fun bt404 => (spec_DrawLearnForm.j0 k bt404.1 t388 bt404.2.1 bt404.2.2 t395 t396 t397)) else (spec_DrawLearnForm.j0 k t392 t388 t402 t403 t395 t396 t397)) = some (r1, r2, r3, r4) := H
 have A4 := Aside0.mk A40
 clear A40
 have HC5 := Aside0.mk H
 clear H
 go_enter Try.func54, Try.ntmps54
 go_upto_if 15 with (first | ((with_reducible refine gate_dst (N := 3) rfl ?_); refine bx_ (N := 3) #[.int .i64 0, .int .i64 0, .int .i64 0] 26 ?_; intro gb387 hg w6 hbox hb; have BK387 := ak hbox; have GW387 := gy hg HB; have GE387 := gy hg HB; replace HB := bs HB hb; clear hb hbox hg) | ((with_reducible refine gate_callee (f := 66) rfl ?_); refine goesL_ (some 8) rfl rfl Try.func66 KR rfl #[.slice A0 l0.length c0] rfl AR ?_; (with_reducible refine (spec_l1New.calls k _ _ l0 t388 t389 t390 w _ ?side1 ?side2 ?side3 A2.out).mono ?_); (case side1 => exact PL); (case side2 => exact HR0.out); (case side3 => exact HC0.out); rintro e w7 ⟨g391, rfl, hi, hb, hb2⟩; refine ⟨_, rfl, ?_⟩; replace HB := ak hb; have HI391 := ak (hi); have NB391_387 := ak (IsS158.ne_blk hi (blk_below (g := gb387) (o := .cells #[.int .i64 0, .int .i64 0, .int .i64 0] 26 (0, 0)) (PK BK387) hb2) (by decide)); have NB387_391 := ak (Ne.symm (IsS158.ne_blk hi (blk_below (g := gb387) (o := .cells #[.int .i64 0, .int .i64 0, .int .i64 0] 26 (0, 0)) (PK BK387) hb2) (by decide))); replace BK387 := ak (blk_below (g := gb387) (o := .cells #[.int .i64 0, .int .i64 0, .int .i64 0] 26 (0, 0)) (PK BK387) hb2); (try clear hb); (try clear hb2); (try clear hk); (try clear hi)) | ((with_reducible refine gate_callee (f := 118) rfl ?_); refine goesL_ (some 11) rfl rfl Try.func118 KR rfl #[.pointer (some ⟨g391, 0, none⟩)] rfl AR ?_; (with_reducible refine (spec_l19Draw.calls k g391 t388 t389 t390 t392 t395 t396 t397 t398 t399 w _ ?side1 ?side2 A3.out).mono ?_); (case side1 => repeat (first | (with_reducible first | exact HI391.out | apply IsS158.alloc | apply IsS158.drewN | apply IsS158.drew | apply IsS158.set_1 | apply IsS158.set_2 | refine IsS158.far ?_ NB391_387.out _) | exact HI391.out)); (case side2 => repeat (first | (with_reducible first | exact HB.out | apply below_alloc | apply pw_below_drewN | apply below_drew1 | refine below_set ?_ (IsS158.ge HI391.out) | refine below_set ?_ GE387.out) | exact HB.out)); rintro e w8 ⟨v393, rfl, ho0, hi, hb, hk⟩; refine ⟨_, rfl, ?_⟩; replace BK387 := kq hk BK387 NB387_391; have HO394 := ak (Kd.S_lower ho0 (below_size (by repeat (first | (with_reducible first | exact HB.out | apply below_alloc | apply pw_below_drewN | apply below_drew1 | refine below_set ?_ (IsS158.ge HI391.out) | refine below_set ?_ GE387.out) | exact HB.out)))); replace HB := ak hb; replace HI391 := ak (hi); (try clear hb); (try clear hb2); (try clear hk); (try clear hi); (try clear ho0)) | ((with_reducible refine gate_dst (N := 6) rfl ?_); refine bx_ (N := 6) #[.int .i64 0, .int .i64 0, .int .i64 0] 26 ?_; intro gb400 hg w9 hbox hb; replace HO394 := Sb HO394 hb; have BK400 := ak hbox; have GW400 := ak ((by rw [hg]; exact (below_size (by repeat (first | (with_reducible first | exact HB.out | apply below_alloc | apply pw_below_drewN | apply below_drew1 | refine below_set ?_ (IsS158.ge HI391.out) | refine below_set ?_ GE387.out) | exact HB.out))) : w.heap.size ≤ gb400)); have GE400 := ak ((by rw [hg]; exact (below_size (by repeat (first | (with_reducible first | exact HB.out | apply below_alloc | apply pw_below_drewN | apply below_drew1 | refine below_set ?_ (IsS158.ge HI391.out) | refine below_set ?_ GE387.out) | exact HB.out))) : w.heap.size ≤ gb400)); replace HB := ak (below_step (by repeat (first | (with_reducible first | exact HB.out | apply below_alloc | apply pw_below_drewN | apply below_drew1 | refine below_set ?_ (IsS158.ge HI391.out) | refine below_set ?_ GE387.out) | exact HB.out)) hb); have NB387_400 := gm hg BK387; have NB400_387 := gn hg BK387; replace BK387 := kf BK387 hb; have NB391_400 := ak ((by rw [hg]; exact Nat.ne_of_lt (IsS158.lt (show IsS158 w _ g391 t388 t398 t399 from by repeat (first | (with_reducible first | exact HI391.out | apply IsS158.alloc | apply IsS158.drewN | apply IsS158.drew | apply IsS158.set_1 | apply IsS158.set_2 | refine IsS158.far ?_ NB391_387.out _) | exact HI391.out))) : g391 ≠ gb400)); have NB400_391 := ak ((by rw [hg]; exact Nat.ne_of_gt (IsS158.lt (show IsS158 w _ g391 t388 t398 t399 from by repeat (first | (with_reducible first | exact HI391.out | apply IsS158.alloc | apply IsS158.drewN | apply IsS158.drew | apply IsS158.set_1 | apply IsS158.set_2 | refine IsS158.far ?_ NB391_387.out _) | exact HI391.out))) : gb400 ≠ g391)); replace HI391 := ak (IsS158.below (by repeat (first | (with_reducible first | exact HI391.out | apply IsS158.alloc | apply IsS158.drewN | apply IsS158.drew | apply IsS158.set_1 | apply IsS158.set_2 | refine IsS158.far ?_ NB391_387.out _) | exact HI391.out)) hb); clear hb hbox hg; have hnb10 := NB400_387.out; have hnc10 := NB387_400.out; have hnb11 := NB400_391.out; have hnc11 := NB391_400.out; obtain ⟨hcz12_0, hcz12_1, hcz12_2, hfz12_0, hfz12_1, hfz12_2⟩ := bc3 BK400) | ((with_reducible refine gate_callee (f := 119) rfl ?_); refine goesL_ (some 15) rfl rfl Try.func119 KR rfl #[.pointer (some ⟨g391, 0, none⟩), .int .i64 10] rfl AR ?_; (with_reducible refine (spec_l1Once.calls g391 t388 t398 t399 10 t401 t402 t403 w _ ?side1 ?side2 A4.out).mono ?_); (case side1 => repeat (first | (with_reducible first | exact HI391.out | apply IsS158.alloc | apply IsS158.drewN | apply IsS158.drew | apply IsS158.set_1 | apply IsS158.set_2 | refine IsS158.far ?_ NB391_387.out _ | refine IsS158.far ?_ NB391_400.out _) | exact HI391.out)); (case side2 => repeat (first | (with_reducible first | exact HB.out | apply below_alloc | apply pw_below_drewN | apply below_drew1 | refine below_set ?_ (IsS158.ge HI391.out) | refine below_set ?_ GE387.out | refine below_set ?_ GE400.out) | exact HB.out)); rintro e w13 ⟨rfl, hi, hb, hk⟩; refine ⟨_, rfl, ?_⟩; replace BK387 := kq hk BK387 NB387_391; replace HO394 := Sk (IsS158.apartS (show IsS158 w _ g391 t388 t398 t399 from by repeat (first | (with_reducible first | exact HI391.out | apply IsS158.alloc | apply IsS158.drewN | apply IsS158.drew | apply IsS158.set_1 | apply IsS158.set_2 | refine IsS158.far ?_ NB391_387.out _ | refine IsS158.far ?_ NB391_400.out _) | exact HI391.out)) (Se1 HO394 BK400) (by decide)) hk; replace BK400 := kr (cs' := #[.int .i64 t395, .int .i64 t396, .int .i64 t397]) hk BK400 NB400_391; replace HB := ak hb; replace HI391 := ak (hi); (try clear hb); (try clear hb2); (try clear hk); (try clear hi)))
 (try simp only [Act.put, List.setIfInBounds_toArray, List.set_cons_zero, List.set_cons_succ])
 go_cut [5] (fun v5 wc => ∃ (kq : Nat) (x5_4 : List (S40)) (x392001_4 : Int) (x392002_4 : Int), Aside0 (spec_DrawLearnForm.j0 kq x5_4 t388 x392001_4 x392002_4 t395 t396 t397 = some (r1, r2, r3, r4)) ∧ Aside0 (kq ≤ k) ∧ Aside0 (Kd.S k40 40 wc w.heap.size (fun _ => True) v5 x5_4) ∧ Aside0 (wc.heap[gb387]? = some (.cells #[.int .i64 0, .int .i64 0, .int .i64 0] 26 (0, 0))) ∧ Aside0 (wc.heap[gb400]? = some (.cells #[.int .i64 t395, .int .i64 t396, .int .i64 t397] 26 (0, 0))) ∧ Aside0 (IsS158 w wc g391 t388 x392001_4 x392002_4) ∧ Aside0 (Below w.heap.size w wc))
 case first =>
  have H := HC5.out
  clear HC5
  by_cases c14 : t401 = true
  ·subst c14
   have H1 : ((spec_l15Any.f k t388 t402 t403).bind fun bt404 => (spec_DrawLearnForm.j0 k bt404.1 t388 bt404.2.1 bt404.2.2 t395 t396 t397)) = some (r1, r2, r3, r4) := by rw [if_pos rfl] at H; exact H
   clear H
   have H := H1
   clear H1
   replace H := Option.bind_eq_some_iff.mp H
   obtain ⟨⟨t404, t407, t408⟩, A150, H⟩ := H
   replace H : (spec_DrawLearnForm.j0 k t404 t388 t407 t408 t395 t396 t397) = some (r1, r2, r3, r4) := H
   have A15 := Aside0.mk A150
   clear A150
   have H' := Aside0.mk H
   clear H
   go_wp2_with (first | ((with_reducible refine gate_callee (f := 120) rfl ?_); refine goesL_ (some 17) rfl rfl Try.func120 KR rfl #[.pointer (some ⟨g391, 0, none⟩)] rfl AR ?_; (with_reducible refine (spec_l15Any.calls k g391 t388 t402 t403 t404 t407 t408 w _ ?side1 ?side2 A15.out).mono ?_); (case side1 => repeat (first | (with_reducible first | exact HI391.out | apply IsS158.alloc | apply IsS158.drewN | apply IsS158.drew | apply IsS158.set_1 | apply IsS158.set_2 | refine IsS158.far ?_ NB391_387.out _ | refine IsS158.far ?_ NB391_400.out _) | exact HI391.out)); (case side2 => repeat (first | (with_reducible first | exact HB.out | apply below_alloc | apply pw_below_drewN | apply below_drew1 | refine below_set ?_ (IsS158.ge HI391.out) | refine below_set ?_ GE387.out | refine below_set ?_ GE400.out) | exact HB.out)); rintro e w16 ⟨v405, rfl, ho0, hi, hb, hk⟩; refine ⟨_, rfl, ?_⟩; replace BK387 := kq hk BK387 NB387_391; replace BK400 := kq hk BK400 NB400_391; have HO406 := ak (Kd.S_lower (Kd.S_new' ho0 (Kd.S_lt (PS HO394))) (below_size (by repeat (first | (with_reducible first | exact HB.out | apply below_alloc | apply pw_below_drewN | apply below_drew1 | refine below_set ?_ (IsS158.ge HI391.out) | refine below_set ?_ GE387.out | refine below_set ?_ GE400.out) | exact HB.out)))); replace HO394 := ak (Kd.S_mono (Kd.S_told (Kd.S_oldK (IsS158.apartS (show IsS158 w _ g391 t388 t402 t403 from by repeat (first | (with_reducible first | exact HI391.out | apply IsS158.alloc | apply IsS158.drewN | apply IsS158.drew | apply IsS158.set_1 | apply IsS158.set_2 | refine IsS158.far ?_ NB391_387.out _ | refine IsS158.far ?_ NB391_400.out _) | exact HI391.out)) (PS HO394) (by decide)) hk) (Kd.S_base ho0)) (fun _ h_ => h_.1)); replace HB := ak hb; replace HI391 := ak (hi); (try clear hb); (try clear hb2); (try clear hk); (try clear hi); (try clear ho0)))
   go_meet
   case rel => exact ⟨_, (t404), (t407), (t408), H', ⟨by first | omega | exact Nat.le_refl _⟩, ⟨SX HO406.out (fun _ hk => trivial)⟩, ⟨PK BK387⟩, ⟨PK BK400⟩, ⟨by repeat (first | (with_reducible first | exact HI391.out | apply IsS158.alloc | apply IsS158.drewN | apply IsS158.drew | apply IsS158.set_1 | apply IsS158.set_2 | refine IsS158.far ?_ NB391_387.out _ | refine IsS158.far ?_ NB391_400.out _) | exact HI391.out)⟩, ⟨by repeat (first | (with_reducible first | exact HB.out | apply below_alloc | apply pw_below_drewN | apply below_drew1 | refine below_set ?_ (IsS158.ge HI391.out) | refine below_set ?_ GE387.out | refine below_set ?_ GE400.out) | exact HB.out)⟩⟩
  ·replace c14 := Bool.eq_false_iff.mpr c14
   subst c14
   have H1 : (spec_DrawLearnForm.j0 k t392 t388 t402 t403 t395 t396 t397) = some (r1, r2, r3, r4) := by rw [if_neg (show ¬ (false = true) by decide)] at H; exact H
   clear H
   have H := H1
   clear H1
   have H' := Aside0.mk H
   clear H
   go_wp2
   go_meet
   case rel => exact ⟨_, (t392), (t402), (t403), H', ⟨by first | omega | exact Nat.le_refl _⟩, ⟨PS HO394⟩, ⟨PK BK387⟩, ⟨PK BK400⟩, ⟨by repeat (first | (with_reducible first | exact HI391.out | apply IsS158.alloc | apply IsS158.drewN | apply IsS158.drew | apply IsS158.set_1 | apply IsS158.set_2 | refine IsS158.far ?_ NB391_387.out _ | refine IsS158.far ?_ NB391_400.out _) | exact HI391.out)⟩, ⟨by repeat (first | (with_reducible first | exact HB.out | apply below_alloc | apply pw_below_drewN | apply below_drew1 | refine below_set ?_ (IsS158.ge HI391.out) | refine below_set ?_ GE387.out | refine below_set ?_ GE400.out) | exact HB.out)⟩⟩
 case rest =>
  clear HC5
  (try clear c1); (try clear p2); (try clear c5); (try clear c6); (try clear c10); (try clear c11); (try clear c12); (try clear c14); (try clear hcz12_0); (try clear hcz12_1); (try clear hcz12_2); (try clear hfz12_0); (try clear hfz12_1); (try clear hfz12_2)
  obtain ⟨kq, x5_4, x392001_4, x392002_4, HA, HJ4, HO_5, BK387, BK400, HI391, HB⟩ := hcut
  cases kq with
  | zero => exact absurd HA.out (by simp [spec_DrawLearnForm.j0])
  | succ kj4 =>
   have H := HA.out
   clear HA
   simp only [spec_DrawLearnForm.j0] at H
   replace H := Option.bind_eq_some_iff.mp H
   obtain ⟨⟨t409, t410, t411⟩, A170, H⟩ := H
   replace H : (if t409 = true then ((spec_l4Any.f t388 t410 t411).bind fun bt412 => (some (x5_4, bt412.1, bt412.2.1, bt412.2.2.1))) else (some (x5_4, t395, t396, t397))) = some (r1, r2, r3, r4) := H
   have A17 := Aside0.mk A170
   clear A170
   by_cases c18 : t409 = true
   ·subst c18
    have H1 : ((spec_l4Any.f t388 t410 t411).bind fun bt412 => (some (x5_4, bt412.1, bt412.2.1, bt412.2.2.1))) = some (r1, r2, r3, r4) := by rw [if_pos rfl] at H; exact H
    clear H
    have H := H1
    clear H1
    replace H := Option.bind_eq_some_iff.mp H
    obtain ⟨⟨t412, t413, t414, t415, t416⟩, A190, H⟩ := H
    replace H : (some (x5_4, t412, t413, t414)) = some (r1, r2, r3, r4) := H
    have A19 := Aside0.mk A190
    clear A190
    simp only [Option.some.injEq, Prod.mk.injEq] at H
    obtain ⟨rfl, rfl, rfl, rfl⟩ := H
    try go_wp2_with (first | ((with_reducible refine gate_callee (f := 119) rfl ?_); refine goesL_ (some 19) rfl rfl Try.func119 KR rfl #[.pointer (some ⟨g391, 0, none⟩), .int .i64 10] rfl AR ?_; (with_reducible refine (spec_l1Once.calls g391 t388 x392001_4 x392002_4 10 true t410 t411 w _ ?side1 ?side2 A17.out).mono ?_); (case side1 => repeat (first | (with_reducible first | exact HI391.out | apply IsS158.alloc | apply IsS158.drewN | apply IsS158.drew | apply IsS158.set_1 | apply IsS158.set_2 | refine IsS158.far ?_ NB391_387.out _ | refine IsS158.far ?_ NB391_400.out _) | exact HI391.out)); (case side2 => repeat (first | (with_reducible first | exact HB.out | apply below_alloc | apply pw_below_drewN | apply below_drew1 | refine below_set ?_ (IsS158.ge HI391.out) | refine below_set ?_ GE387.out | refine below_set ?_ GE400.out) | exact HB.out)); rintro e w20 ⟨rfl, hi, hb, hk⟩; refine ⟨_, rfl, ?_⟩; replace HO_5 := Sk (IsS158.apartS (show IsS158 w _ g391 t388 x392001_4 x392002_4 from by repeat (first | (with_reducible first | exact HI391.out | apply IsS158.alloc | apply IsS158.drewN | apply IsS158.drew | apply IsS158.set_1 | apply IsS158.set_2 | refine IsS158.far ?_ NB391_387.out _ | refine IsS158.far ?_ NB391_400.out _) | exact HI391.out)) (PS HO_5) (by decide)) hk; replace BK387 := kq hk BK387 NB387_391; replace BK400 := kq hk BK400 NB400_391; replace HB := ak hb; replace HI391 := ak (hi); (try clear hb); (try clear hb2); (try clear hk); (try clear hi)) | ((with_reducible refine gate_callee (f := 121) rfl ?_); refine goesL_ (some 21) rfl rfl Try.func121 KR rfl #[.pointer (some ⟨g391, 0, none⟩)] rfl AR ?_; (with_reducible refine (spec_l4Any.calls g391 t388 t410 t411 t412 t413 t414 t415 t416 w _ ?side1 ?side2 A19.out).mono ?_); (case side1 => repeat (first | (with_reducible first | exact HI391.out | apply IsS158.alloc | apply IsS158.drewN | apply IsS158.drew | apply IsS158.set_1 | apply IsS158.set_2 | refine IsS158.far ?_ NB391_387.out _ | refine IsS158.far ?_ NB391_400.out _) | exact HI391.out)); (case side2 => repeat (first | (with_reducible first | exact HB.out | apply below_alloc | apply pw_below_drewN | apply below_drew1 | refine below_set ?_ (IsS158.ge HI391.out) | refine below_set ?_ GE387.out | refine below_set ?_ GE400.out) | exact HB.out)); rintro e w21 ⟨rfl, hi, hb, hk⟩; refine ⟨_, rfl, ?_⟩; replace HO_5 := Sk (IsS158.apartS (show IsS158 w _ g391 t388 t410 t411 from by repeat (first | (with_reducible first | exact HI391.out | apply IsS158.alloc | apply IsS158.drewN | apply IsS158.drew | apply IsS158.set_1 | apply IsS158.set_2 | refine IsS158.far ?_ NB391_387.out _ | refine IsS158.far ?_ NB391_400.out _) | exact HI391.out)) (PS HO_5) (by decide)) hk; replace BK387 := kq hk BK387 NB387_391; replace BK400 := kq hk BK400 NB400_391; replace HB := ak hb; replace HI391 := ak (hi); (try clear hb); (try clear hb2); (try clear hk); (try clear hi); have hnb22 := NB400_387.out; have hnc22 := NB387_400.out; have hnb23 := NB400_391.out; have hnc23 := NB391_400.out; obtain ⟨hcz24_0, hcz24_1, hcz24_2, hfz24_0, hfz24_1, hfz24_2⟩ := bc3 BK400))
    generalize hW_ : (((w21.setCell ⟨gb400, 0, none⟩ (.int .i64 t412)).setCell ⟨gb400, 1, none⟩ (.int .i64 t413)).setCell ⟨gb400, 2, none⟩ (.int .i64 t414)) = w25
    replace HO_5 : Aside0 (Kd.S k40 40 w25 w.heap.size (fun _ => True) u5 x5_4) := ⟨by rw [← hW_]; exact SX (St HO_5.out BK400) (fun _ hk => trivial)⟩
    replace BK387 := BE hW_ BK387
    replace BK400 : Aside0 (w25.heap[gb400]? = some (.cells #[.int .i64 t412, .int .i64 t413, .int .i64 t414] 26 (0, 0))) := BP hW_ BK400
    replace HB : Aside0 (Below w.heap.size w w25) := ⟨by rw [← hW_]; repeat (first | (with_reducible first | exact HB.out | apply below_alloc | apply pw_below_drewN | apply below_drew1 | refine below_set ?_ (IsS158.ge HI391.out) | refine below_set ?_ GE387.out | refine below_set ?_ GE400.out) | exact HB.out)⟩
    replace HI391 : Aside0 (IsS158 w w25 g391 t388 t415 t416) := ⟨by rw [← hW_]; repeat (first | (with_reducible first | exact HI391.out | apply IsS158.alloc | apply IsS158.drewN | apply IsS158.drew | apply IsS158.set_1 | apply IsS158.set_2 | refine IsS158.far ?_ NB391_387.out _ | refine IsS158.far ?_ NB391_400.out _) | exact HI391.out)⟩
    (try clear hW_)
    replace HO_5 := ak (Kd.S_drew HO_5.out)
    replace BK387 := ak (blk_drew BK387.out)
    replace BK400 := ak (blk_drew BK400.out)
    replace HI391 := ak (IsS158.drew HI391.out)
    replace HB := ak (below_drew1 HB.out)
    refine start_ (n := 4) (S := fun w' => w'.cell? ⟨gb400, 0, none⟩ = some (.int .i64 t412) ∧ w'.cell? ⟨gb400, 1, none⟩ = some (.int .i64 t413) ∧ w'.cell? ⟨gb400, 2, none⟩ = some (.int .i64 t414)) (ds := []) #[false, false, false, false] KR rfl rfl ⟨(blk_cell BK400.out 0).trans rfl, (blk_cell BK400.out 1).trans rfl, (blk_cell BK400.out 2).trans rfl⟩ (fun hHeld => ?_)
    generalize w25.drew = w26 at HO_5 BK387 BK400 HI391 HB hHeld ⊢
    refine pure_ (i := 0) (N := some 22) (v := ?_) (a' := ?_) #[true, false, false, false] rfl rfl KR (fun _ _ _ h => h) (Or.inl ⟨by rfl, ?_⟩) ?_ ?_
    rotate_left
    ·intro w'
     go_simp
     with_reducible rfl
    rotate_left
    ·simp only [Act.put, List.setIfInBounds_toArray, List.set_cons_zero, List.set_cons_succ, i64_w, i32_w]
     rfl
    refine pure_ (i := 2) (N := some 2) (v := ?_) (a' := ?_) #[true, false, true, false] rfl rfl KR (fun _ _ _ h => h) (Or.inl ⟨by rfl, ?_⟩) ?_ ?_
    rotate_left
    ·intro w'
     go_simp
     with_reducible rfl
    rotate_left
    ·simp only [Act.put, List.setIfInBounds_toArray, List.set_cons_zero, List.set_cons_succ, i64_w, i32_w]
     rfl
    refine take_ (i := 1) (N := some 23) (v := ?_) (a' := ?_) #[true, true, true, false] rfl rfl KR (fun _ _ _ h => h) (Or.inl ⟨by rfl, ?_⟩) hHeld ?_ ?_
    rotate_left
    ·rintro w' ⟨s0, s1, s2⟩
     go_simp
     with_reducible rfl
    rotate_left
    ·simp only [Act.put, List.setIfInBounds_toArray, List.set_cons_zero, List.set_cons_succ, i64_w, i32_w]
     rfl
    refine one_ (i := 3) (N := none) #[true, true, true, true] rfl rfl KR (by decide) (fun K hK => ?_)
    have hs27 : w26.cell? ⟨gb387, 0, none⟩ = some (.int .i64 0) := (blk_cell BK387.out 0).trans rfl
    have hfs27 := blk_frozen BK387.out 0
    have hns27_1 := NB400_387.out
    have hms27_1 := NB387_400.out
    have hs28 : w26.cell? ⟨gb387, 1, none⟩ = some (.int .i64 0) := (blk_cell BK387.out 1).trans rfl
    have hfs28 := blk_frozen BK387.out 1
    have hns28_1 := NB400_387.out
    have hms28_1 := NB387_400.out
    have hs29 : w26.cell? ⟨gb387, 2, none⟩ = some (.int .i64 0) := (blk_cell BK387.out 2).trans rfl
    have hfs29 := blk_frozen BK387.out 2
    have hns29_1 := NB400_387.out
    have hms29_1 := NB387_400.out
    refine skip_ (w1 := ?_) (by rfl) rfl ?_ ?_
    rotate_left
    ·go_simp
     rfl
    refine hK.out _ _ ⟨((cell_far (p := ⟨gb387, _, none⟩) NB400_387.out _).trans (((cell_far (p := ⟨gb387, _, none⟩) NB400_387.out _).trans (((cell_far (p := ⟨gb387, _, none⟩) NB400_387.out _).trans (hHeld.1)))))), ((cell_far (p := ⟨gb387, _, none⟩) NB400_387.out _).trans (((cell_far (p := ⟨gb387, _, none⟩) NB400_387.out _).trans (((cell_far (p := ⟨gb387, _, none⟩) NB400_387.out _).trans (hHeld.2.1)))))), ((cell_far (p := ⟨gb387, _, none⟩) NB400_387.out _).trans (((cell_far (p := ⟨gb387, _, none⟩) NB400_387.out _).trans (((cell_far (p := ⟨gb387, _, none⟩) NB400_387.out _).trans (hHeld.2.2))))))⟩ (fun hHeld => ?_)
    clear hK K
    refine done_ KR ?_
    try go_wp2
    refine bodyPost_ret (results_tc rfl _ _ gb387 26 #[.int .i64 t412, .int .i64 t413, .int .i64 t414] (0, 0) _ rfl (PX BK387) Try.underlying26 rfl KR) rfl ?_
    exact ⟨_, RT, SX (St HO_5.out BK387) (fun _ hk => trivial), by repeat (first | (with_reducible first | exact HB.out | apply below_alloc | apply pw_below_drewN | apply below_drew1 | refine below_set ?_ (IsS158.ge HI391.out) | refine below_set ?_ GE387.out | refine below_set ?_ GE400.out) | exact HB.out)⟩
   ·replace c18 := Bool.eq_false_iff.mpr c18
    subst c18
    have H1 : (some (x5_4, t395, t396, t397)) = some (r1, r2, r3, r4) := by rw [if_neg (show ¬ (false = true) by decide)] at H; exact H
    clear H
    have H := H1
    clear H1
    simp only [Option.some.injEq, Prod.mk.injEq] at H
    obtain ⟨rfl, rfl, rfl, rfl⟩ := H
    try go_wp2_with (first | ((with_reducible refine gate_callee (f := 119) rfl ?_); refine goesL_ (some 19) rfl rfl Try.func119 KR rfl #[.pointer (some ⟨g391, 0, none⟩), .int .i64 10] rfl AR ?_; (with_reducible refine (spec_l1Once.calls g391 t388 x392001_4 x392002_4 10 false t410 t411 w _ ?side1 ?side2 A17.out).mono ?_); (case side1 => repeat (first | (with_reducible first | exact HI391.out | apply IsS158.alloc | apply IsS158.drewN | apply IsS158.drew | apply IsS158.set_1 | apply IsS158.set_2 | refine IsS158.far ?_ NB391_387.out _ | refine IsS158.far ?_ NB391_400.out _) | exact HI391.out)); (case side2 => repeat (first | (with_reducible first | exact HB.out | apply below_alloc | apply pw_below_drewN | apply below_drew1 | refine below_set ?_ (IsS158.ge HI391.out) | refine below_set ?_ GE387.out | refine below_set ?_ GE400.out) | exact HB.out)); rintro e w30 ⟨rfl, hi, hb, hk⟩; refine ⟨_, rfl, ?_⟩; replace HO_5 := Sk (IsS158.apartS (show IsS158 w _ g391 t388 x392001_4 x392002_4 from by repeat (first | (with_reducible first | exact HI391.out | apply IsS158.alloc | apply IsS158.drewN | apply IsS158.drew | apply IsS158.set_1 | apply IsS158.set_2 | refine IsS158.far ?_ NB391_387.out _ | refine IsS158.far ?_ NB391_400.out _) | exact HI391.out)) (PS HO_5) (by decide)) hk; replace BK387 := kq hk BK387 NB387_391; replace BK400 := kq hk BK400 NB400_391; replace HB := ak hb; replace HI391 := ak (hi); (try clear hb); (try clear hb2); (try clear hk); (try clear hi)))
    replace HO_5 := ak (Kd.S_drew HO_5.out)
    replace BK387 := ak (blk_drew BK387.out)
    replace BK400 := ak (blk_drew BK400.out)
    replace HI391 := ak (IsS158.drew HI391.out)
    replace HB := ak (below_drew1 HB.out)
    refine start_ (n := 4) (S := fun w' => w'.cell? ⟨gb400, 0, none⟩ = some (.int .i64 t395) ∧ w'.cell? ⟨gb400, 1, none⟩ = some (.int .i64 t396) ∧ w'.cell? ⟨gb400, 2, none⟩ = some (.int .i64 t397)) (ds := []) #[false, false, false, false] KR rfl rfl ⟨(blk_cell BK400.out 0).trans rfl, (blk_cell BK400.out 1).trans rfl, (blk_cell BK400.out 2).trans rfl⟩ (fun hHeld => ?_)
    generalize w30.drew = w31 at HO_5 BK387 BK400 HI391 HB hHeld ⊢
    refine pure_ (i := 0) (N := some 22) (v := ?_) (a' := ?_) #[true, false, false, false] rfl rfl KR (fun _ _ _ h => h) (Or.inl ⟨by rfl, ?_⟩) ?_ ?_
    rotate_left
    ·intro w'
     go_simp
     with_reducible rfl
    rotate_left
    ·simp only [Act.put, List.setIfInBounds_toArray, List.set_cons_zero, List.set_cons_succ, i64_w, i32_w]
     rfl
    refine pure_ (i := 2) (N := some 2) (v := ?_) (a' := ?_) #[true, false, true, false] rfl rfl KR (fun _ _ _ h => h) (Or.inl ⟨by rfl, ?_⟩) ?_ ?_
    rotate_left
    ·intro w'
     go_simp
     with_reducible rfl
    rotate_left
    ·simp only [Act.put, List.setIfInBounds_toArray, List.set_cons_zero, List.set_cons_succ, i64_w, i32_w]
     rfl
    refine take_ (i := 1) (N := some 23) (v := ?_) (a' := ?_) #[true, true, true, false] rfl rfl KR (fun _ _ _ h => h) (Or.inl ⟨by rfl, ?_⟩) hHeld ?_ ?_
    rotate_left
    ·rintro w' ⟨s0, s1, s2⟩
     go_simp
     with_reducible rfl
    rotate_left
    ·simp only [Act.put, List.setIfInBounds_toArray, List.set_cons_zero, List.set_cons_succ, i64_w, i32_w]
     rfl
    refine one_ (i := 3) (N := none) #[true, true, true, true] rfl rfl KR (by decide) (fun K hK => ?_)
    have hs32 : w31.cell? ⟨gb387, 0, none⟩ = some (.int .i64 0) := (blk_cell BK387.out 0).trans rfl
    have hfs32 := blk_frozen BK387.out 0
    have hns32_1 := NB400_387.out
    have hms32_1 := NB387_400.out
    have hs33 : w31.cell? ⟨gb387, 1, none⟩ = some (.int .i64 0) := (blk_cell BK387.out 1).trans rfl
    have hfs33 := blk_frozen BK387.out 1
    have hns33_1 := NB400_387.out
    have hms33_1 := NB387_400.out
    have hs34 : w31.cell? ⟨gb387, 2, none⟩ = some (.int .i64 0) := (blk_cell BK387.out 2).trans rfl
    have hfs34 := blk_frozen BK387.out 2
    have hns34_1 := NB400_387.out
    have hms34_1 := NB387_400.out
    refine skip_ (w1 := ?_) (by rfl) rfl ?_ ?_
    rotate_left
    ·go_simp
     rfl
    refine hK.out _ _ ⟨((cell_far (p := ⟨gb387, _, none⟩) NB400_387.out _).trans (((cell_far (p := ⟨gb387, _, none⟩) NB400_387.out _).trans (((cell_far (p := ⟨gb387, _, none⟩) NB400_387.out _).trans (hHeld.1)))))), ((cell_far (p := ⟨gb387, _, none⟩) NB400_387.out _).trans (((cell_far (p := ⟨gb387, _, none⟩) NB400_387.out _).trans (((cell_far (p := ⟨gb387, _, none⟩) NB400_387.out _).trans (hHeld.2.1)))))), ((cell_far (p := ⟨gb387, _, none⟩) NB400_387.out _).trans (((cell_far (p := ⟨gb387, _, none⟩) NB400_387.out _).trans (((cell_far (p := ⟨gb387, _, none⟩) NB400_387.out _).trans (hHeld.2.2))))))⟩ (fun hHeld => ?_)
    clear hK K
    refine done_ KR ?_
    try go_wp2
    refine bodyPost_ret (results_tc rfl _ _ gb387 26 #[.int .i64 t395, .int .i64 t396, .int .i64 t397] (0, 0) _ rfl (PX BK387) Try.underlying26 rfl KR) rfl ?_
    exact ⟨_, RT, SX (St HO_5.out BK387) (fun _ hk => trivial), by repeat (first | (with_reducible first | exact HB.out | apply below_alloc | apply pw_below_drewN | apply below_drew1 | refine below_set ?_ (IsS158.ge HI391.out) | refine below_set ?_ GE387.out | refine below_set ?_ GE400.out) | exact HB.out)⟩

/-! ### spec_l1In: function 91 -/
def spec_l1In.f (a0 : Int) (a1 : Int) (a2 : Int) : Option (Bool) := if a0 ≥ a1 then (some (decide (a0 ≤ a2))) else (some false)
set_option maxHeartbeats 8000000 in
set_option maxRecDepth 100000 in
theorem spec_l1In.calls (a0 : Int) (a1 : Int) (a2 : Int) (r : Bool) (w : World) (h : spec_l1In.f a0 a1 a2 = some r) :
  Calls Try.prog 91 #[.int .i64 a0, .int .i64 a1, .int .i64 a2] w fun e w' => e = .returned (.bool r) ∧ Drawn0 w w' := by
 have H : (if a0 ≥ a1 then (some (decide (a0 ≤ a2))) else (some false)) = some r := h
 clear h
 by_cases c4 : a0 ≥ a1
 ·rw [if_pos c4] at H
  have c4b0 : decide (a1 ≤ a0) = true := decide_eq_true c4
  clear c4
  obtain rfl := Option.some.inj H
  go_enter Try.func91, Try.ntmps91
  go_wp2
  go_ret
  exact ⟨by first | rfl | (simp; done) | (simp [*]; done), by repeat (first | exact Drawn0.refl _ | apply Drawn0.step)⟩
 ·rw [if_neg c4] at H
  have c4b0 : decide (a1 ≤ a0) = false := decide_eq_false c4
  clear c4
  obtain rfl := Option.some.inj H
  go_enter Try.func91, Try.ntmps91
  go_wp2
  go_ret
  exact ⟨by first | rfl | (simp; done) | (simp [*]; done), by repeat (first | exact Drawn0.refl _ | apply Drawn0.step)⟩

/-! ### spec_IsAddress: function 108 -/
def spec_IsAddress.f (a0_0 : Int) (a0_1 : Int) (a0_2 : Int) : Option (Bool) := (spec_l1In.f a0_0 1 9).bind fun t418 => (if t418 = true then ((spec_l1In.f a0_1 0 99).bind fun t419 => (if t419 = true then ((spec_l1In.f a0_2 0 99).bind fun t420 => (some t420)) else (some false))) else (some false))
set_option maxHeartbeats 8000000 in
set_option maxRecDepth 100000 in
theorem spec_IsAddress.calls (a0_0 : Int) (a0_1 : Int) (a0_2 : Int) (r : Bool) (w : World) (h : spec_IsAddress.f a0_0 a0_1 a0_2 = some r) :
  Calls Try.prog 108 #[.agg #[.int .i64 a0_0, .int .i64 a0_1, .int .i64 a0_2]] w fun e w' => e = .returned (.bool r) ∧ Below w.heap.size w w' := by
 have hu26 := Try.underlying26
 have HB := ak (Below.refl w.heap.size w)
 have H : ((spec_l1In.f a0_0 1 9).bind fun t418 => (if t418 = true then ((spec_l1In.f a0_1 0 99).bind fun t419 => (if t419 = true then ((spec_l1In.f a0_2 0 99).bind fun t420 => (some t420)) else (some false))) else (some false))) = some r := h
 clear h
 replace H := Option.bind_eq_some_iff.mp H
 obtain ⟨t418, A20, H⟩ := H
 replace H : (if t418 = true then ((spec_l1In.f a0_1 0 99).bind fun t419 => (if t419 = true then ((spec_l1In.f a0_2 0 99).bind fun t420 => (some t420)) else (some false))) else (some false)) = some r := H
 have A2 := Aside0.mk A20
 clear A20
 by_cases c3 : t418 = true
 ·subst c3
  have H1 : ((spec_l1In.f a0_1 0 99).bind fun t419 => (if t419 = true then ((spec_l1In.f a0_2 0 99).bind fun t420 => (some t420)) else (some false))) = some r := by rw [if_pos rfl] at H; exact H
  clear H
  have H := H1
  clear H1
  replace H := Option.bind_eq_some_iff.mp H
  obtain ⟨t419, A40, H⟩ := H
  replace H : (if t419 = true then ((spec_l1In.f a0_2 0 99).bind fun t420 => (some t420)) else (some false)) = some r := H
  have A4 := Aside0.mk A40
  clear A40
  by_cases c5 : t419 = true
  ·subst c5
   have H1 : ((spec_l1In.f a0_2 0 99).bind fun t420 => (some t420)) = some r := by rw [if_pos rfl] at H; exact H
   clear H
   have H := H1
   clear H1
   replace H := Option.bind_eq_some_iff.mp H
   obtain ⟨t420, A60, H⟩ := H
   replace H : (some t420) = some r := H
   have A6 := Aside0.mk A60
   clear A60
   obtain rfl := Option.some.inj H
   go_enter Try.func108, Try.ntmps108
   go_wp2_with (first | ((with_reducible refine gate_dst (N := 1) rfl ?_); refine bx_ (N := 1) #[.int .i64 a0_0, .int .i64 a0_1, .int .i64 a0_2] 26 ?_; intro gb417 hg w7 hbox hb; have BK417 := ak hbox; have GW417 := gy hg HB; have GE417 := gy hg HB; replace HB := bs HB hb; clear hb hbox hg; obtain ⟨hcz8_0, hcz8_1, hcz8_2, hfz8_0, hfz8_1, hfz8_2⟩ := bc3 BK417) | ((with_reducible refine gate_callee (f := 91) rfl ?_); refine goesL_ (some 5) rfl rfl Try.func91 KR rfl #[.int .i64 a0_0, .int .i64 1, .int .i64 9] rfl AR ?_; (with_reducible refine (spec_l1In.calls a0_0 1 9 true _ A2.out).mono ?_); rintro e w' ⟨rfl, ⟨nd, rfl⟩⟩; refine ⟨_, rfl, ?_⟩) | (go_at_call 91; (with_reducible refine (spec_l1In.calls a0_1 0 99 true _ A4.out).mono ?_); rintro e w' ⟨rfl, ⟨nd, rfl⟩⟩) | (go_at_call 91; (with_reducible refine (spec_l1In.calls a0_2 0 99 t420 _ A6.out).mono ?_); rintro e w' ⟨rfl, ⟨nd, rfl⟩⟩))
   go_ret
   exact ⟨RT, PB⟩
  ·replace c5 := Bool.eq_false_iff.mpr c5
   subst c5
   have H1 : (some false) = some r := by rw [if_neg (show ¬ (false = true) by decide)] at H; exact H
   clear H
   have H := H1
   clear H1
   obtain rfl := Option.some.inj H
   go_enter Try.func108, Try.ntmps108
   go_wp2_with (first | ((with_reducible refine gate_dst (N := 1) rfl ?_); refine bx_ (N := 1) #[.int .i64 a0_0, .int .i64 a0_1, .int .i64 a0_2] 26 ?_; intro gb417 hg w9 hbox hb; have BK417 := ak hbox; have GW417 := gy hg HB; have GE417 := gy hg HB; replace HB := bs HB hb; clear hb hbox hg; obtain ⟨hcz10_0, hcz10_1, hcz10_2, hfz10_0, hfz10_1, hfz10_2⟩ := bc3 BK417) | ((with_reducible refine gate_callee (f := 91) rfl ?_); refine goesL_ (some 5) rfl rfl Try.func91 KR rfl #[.int .i64 a0_0, .int .i64 1, .int .i64 9] rfl AR ?_; (with_reducible refine (spec_l1In.calls a0_0 1 9 true _ A2.out).mono ?_); rintro e w' ⟨rfl, ⟨nd, rfl⟩⟩; refine ⟨_, rfl, ?_⟩) | (go_at_call 91; (with_reducible refine (spec_l1In.calls a0_1 0 99 false _ A4.out).mono ?_); rintro e w' ⟨rfl, ⟨nd, rfl⟩⟩))
   go_ret
   exact ⟨RT, PB⟩
 ·replace c3 := Bool.eq_false_iff.mpr c3
  subst c3
  have H1 : (some false) = some r := by rw [if_neg (show ¬ (false = true) by decide)] at H; exact H
  clear H
  have H := H1
  clear H1
  obtain rfl := Option.some.inj H
  go_enter Try.func108, Try.ntmps108
  go_wp2_with (first | ((with_reducible refine gate_dst (N := 1) rfl ?_); refine bx_ (N := 1) #[.int .i64 a0_0, .int .i64 a0_1, .int .i64 a0_2] 26 ?_; intro gb417 hg w11 hbox hb; have BK417 := ak hbox; have GW417 := gy hg HB; have GE417 := gy hg HB; replace HB := bs HB hb; clear hb hbox hg; obtain ⟨hcz12_0, hcz12_1, hcz12_2, hfz12_0, hfz12_1, hfz12_2⟩ := bc3 BK417) | ((with_reducible refine gate_callee (f := 91) rfl ?_); refine goesL_ (some 5) rfl rfl Try.func91 KR rfl #[.int .i64 a0_0, .int .i64 1, .int .i64 9] rfl AR ?_; (with_reducible refine (spec_l1In.calls a0_0 1 9 false _ A2.out).mono ?_); rintro e w' ⟨rfl, ⟨nd, rfl⟩⟩; refine ⟨_, rfl, ?_⟩))
  go_ret
  exact ⟨RT, PB⟩

/-! ### spec_l5Bytes: function 152 -/
def spec_l5Bytes.l0 : Nat → List Int → Int → Option (Bool)
  | 0, _, _ => none
  | k + 1, x0, x3 => if x3 < (x0.length : Int) then (if 0 ≤ x3 then ((spec_l1In.f (rd x0 x3) 0 255).bind fun t422 => (if t422 = true then (spec_l5Bytes.l0 k x0 (wrap64 (x3 + 1))) else (some false))) else (none)) else (some true)
def spec_l5Bytes.f (k : Nat) (l0 : List Int) : Option (Bool) := spec_l5Bytes.l0 k l0 0
set_option maxHeartbeats 8000000 in
set_option maxRecDepth 100000 in
theorem spec_l5Bytes.calls (k : Nat) (A0 : Option Addr) (c0 : Nat) (l0 : List Int) (r : Bool) (w : World) (hr0 : Kd.C (Kd.int .i64) w A0 l0.length l0) (hc0 : l0.length ≤ c0) (h : spec_l5Bytes.f k l0 = some r) :
  Calls Try.prog 152 #[.slice A0 l0.length c0] w fun e w' => e = .returned (.bool r) ∧ Drawn0 w w' := by
 have HR0 := Aside0.mk hr0
 have HC0 := Aside0.mk hc0
 clear hr0 hc0
 have H : (spec_l5Bytes.l0 k l0 0) = some r := h
 clear h
 have H' := Aside0.mk H
 clear H
 go_enter Try.func152, Try.ntmps152
 go_wp2
 go_loopg [3] k (fun kq v3 w' => ∃ (x3_1 : Int), v3 = .int .i64 x3_1 ∧ Aside0 (spec_l5Bytes.l0 kq l0 x3_1 = some r) ∧ Aside0 (kq ≤ k) ∧ Drawn0 w w')
 case atStart => exact ⟨(0), (by first | rfl | (simp; done) | (simp [*]; done)), H', ⟨Nat.le_refl _⟩, by repeat (first | exact Drawn0.refl _ | apply Drawn0.step)⟩
 case round =>
  clear H'
  try clear c1
  obtain ⟨x3_1, rfl, HA, HK1, ⟨m1, rfl⟩⟩ := hrel
  cases gk with
  | zero => exact absurd HA.out (by simp [spec_l5Bytes.l0])
  | succ k1 =>
   have H := HA.out
   clear HA
   simp only [spec_l5Bytes.l0] at H
   by_cases c2 : x3_1 < (l0.length : Int)
   ·rw [if_pos c2] at H
    have c2b0 : decide (x3_1 < (l0.length : Int)) = true := decide_eq_true c2
    clear c2
    by_cases c3 : 0 ≤ x3_1
    ·rw [if_pos c3] at H
     have c3b0 : decide (0 ≤ x3_1) = true := decide_eq_true c3
     clear c3
     replace H := Option.bind_eq_some_iff.mp H
     obtain ⟨t422, A40, H⟩ := H
     replace H : (if t422 = true then (spec_l5Bytes.l0 k1 l0 (wrap64 (x3_1 + 1))) else (some false)) = some r := H
     have A4 := Aside0.mk A40
     clear A40
     by_cases c5 : t422 = true
     ·subst c5
      have H1 : (spec_l5Bytes.l0 k1 l0 (wrap64 (x3_1 + 1))) = some r := by rw [if_pos rfl] at H; exact H
      clear H
      have H := H1
      clear H1
      have H' := Aside0.mk H
      clear H
      have p421 : 0 ≤ (x3_1 : Int) := of_decide_eq_true (by first | (with_reducible assumption) | assumption)
      have q421 : x3_1 < (l0.length : Int) := of_decide_eq_true (by first | (with_reducible assumption) | assumption)
      obtain ⟨ad421, e421, hx421_0⟩ := Kd.at_int HR0.out x3_1 p421 q421
      cases e421
      replace p421 := eq_true p421
      replace q421 := eq_true q421
      go_wp2_with (first | ((with_reducible refine gate_callee (f := 91) rfl ?_); refine goesL_ (some 14) rfl rfl Try.func91 KR rfl #[.int .i64 (rd l0 x3_1), .int .i64 0, .int .i64 255] rfl AR ?_; (with_reducible refine (spec_l1In.calls (rd l0 x3_1) 0 255 true _ A4.out).mono ?_); rintro e w' ⟨rfl, ⟨nd, rfl⟩⟩; refine ⟨_, rfl, ?_⟩))
      go_roundg k1
      case measure => have := HK1.out; omega
      case rel => exact ⟨(wrap64 (x3_1 + 1)), (by first | rfl | (simp; done) | (simp [*]; done)), H', ⟨by have := HK1.out; omega⟩, by repeat (first | exact Drawn0.refl _ | apply Drawn0.step)⟩
     ·replace c5 := Bool.eq_false_iff.mpr c5
      subst c5
      have H1 : (some false) = some r := by rw [if_neg (show ¬ (false = true) by decide)] at H; exact H
      clear H
      have H := H1
      clear H1
      obtain rfl := Option.some.inj H
      have p421 : 0 ≤ (x3_1 : Int) := of_decide_eq_true (by first | (with_reducible assumption) | assumption)
      have q421 : x3_1 < (l0.length : Int) := of_decide_eq_true (by first | (with_reducible assumption) | assumption)
      obtain ⟨ad421, e421, hx421_0⟩ := Kd.at_int HR0.out x3_1 p421 q421
      cases e421
      replace p421 := eq_true p421
      replace q421 := eq_true q421
      go_wp2_with (first | ((with_reducible refine gate_callee (f := 91) rfl ?_); refine goesL_ (some 14) rfl rfl Try.func91 KR rfl #[.int .i64 (rd l0 x3_1), .int .i64 0, .int .i64 255] rfl AR ?_; (with_reducible refine (spec_l1In.calls (rd l0 x3_1) 0 255 false _ A4.out).mono ?_); rintro e w' ⟨rfl, ⟨nd, rfl⟩⟩; refine ⟨_, rfl, ?_⟩))
      go_ret
      exact ⟨by first | rfl | (simp; done) | (simp [*]; done), by repeat (first | exact Drawn0.refl _ | apply Drawn0.step)⟩
    ·rw [if_neg c3] at H
     exact absurd H (by simp)
   ·rw [if_neg c2] at H
    have c2b0 : decide (x3_1 < (l0.length : Int)) = false := decide_eq_false c2
    clear c2
    obtain rfl := Option.some.inj H
    go_wp2
    go_ret
    exact ⟨by first | rfl | (simp; done) | (simp [*]; done), by repeat (first | exact Drawn0.refl _ | apply Drawn0.step)⟩

/-! ### spec_IsResource: function 122 -/
def spec_IsResource.j0 : Nat → Bool → Int → List Int → Int → Int → Int → Option (Bool)
  | 0, _, _, _, _, _, _ => none
  | k + 1, x18, x424000, x424001, x424002, x424003, x424004 => if x18 = true then (some false) else (if x424000 = 3 then ((spec_IsAddress.f x424002 x424003 x424004).bind fun t426 => (if t426 = true then (some ((x424001.length : Int) == 0)) else (some false))) else (if (x424002 == 0 && (x424003 == 0 && (x424004 == 0))) = true then (if x424000 = 4 then (some ((x424001.length : Int) == 0)) else (some true)) else (some false)))
def spec_IsResource.f (k : Nat) (a0_0 : Int) (l0_1 : List Int) (a0_2 : Int) (a0_3 : Int) (a0_4 : Int) : Option (Bool) := (spec_l1In.f a0_0 1 4).bind fun t424 => (if t424 = true then ((spec_l5Bytes.f k l0_1).bind fun t425 => (if t425 = true then (spec_IsResource.j0 k (decide ((l0_1.length : Int) > 6)) a0_0 l0_1 a0_2 a0_3 a0_4) else (spec_IsResource.j0 k true a0_0 l0_1 a0_2 a0_3 a0_4))) else (spec_IsResource.j0 k true a0_0 l0_1 a0_2 a0_3 a0_4))
set_option maxHeartbeats 8000000 in
set_option maxRecDepth 100000 in
theorem spec_IsResource.calls (k : Nat) (a0_0 : Int) (A0_1 : Option Addr) (c0_1 : Nat) (l0_1 : List Int) (a0_2 : Int) (a0_3 : Int) (a0_4 : Int) (r : Bool) (w : World) (hr0_1 : Kd.C (Kd.int .i64) w A0_1 l0_1.length l0_1) (hc0_1 : l0_1.length ≤ c0_1) (h : spec_IsResource.f k a0_0 l0_1 a0_2 a0_3 a0_4 = some r) :
  Calls Try.prog 122 #[.agg #[.int .i64 a0_0, .slice A0_1 l0_1.length c0_1, .int .i64 a0_2, .int .i64 a0_3, .int .i64 a0_4]] w fun e w' => e = .returned (.bool r) ∧ Below w.heap.size w w' := by
 have hu38 := Try.underlying38
 have hu26 := Try.underlying26
 have HR0_1 := Aside0.mk hr0_1
 have HC0_1 := Aside0.mk hc0_1
 clear hr0_1 hc0_1
 have HB := ak (Below.refl w.heap.size w)
 have H : ((spec_l1In.f a0_0 1 4).bind fun t424 => (if t424 = true then ((spec_l5Bytes.f k l0_1).bind fun t425 => (if t425 = true then (spec_IsResource.j0 k (decide ((l0_1.length : Int) > 6)) a0_0 l0_1 a0_2 a0_3 a0_4) else (spec_IsResource.j0 k true a0_0 l0_1 a0_2 a0_3 a0_4))) else (spec_IsResource.j0 k true a0_0 l0_1 a0_2 a0_3 a0_4))) = some r := h
 clear h
 have HC2 := Aside0.mk H
 clear H
 go_enter Try.func122, Try.ntmps122
 go_upto_region 1 with (first | ((with_reducible refine gate_dst (N := 1) rfl ?_); (try (refine gate_guard (by rfl) ?_; dsimp only)); refine bx_ (N := 1) #[.int .i64 a0_0, .slice A0_1 l0_1.length c0_1, .int .i64 a0_2, .int .i64 a0_3, .int .i64 a0_4] 38 ?_; intro gb423 hg w3 hbox hb; have BK423 := ak hbox; have GW423 := gy hg HB; have GE423 := gy hg HB; replace HB := bs HB hb; clear hb hbox hg))
 (try simp only [Act.put, List.setIfInBounds_toArray, List.set_cons_zero, List.set_cons_succ])
 go_cut [18] (fun v18 wc => ∃ (kq : Nat) (x18_1 : Bool), v18 = .bool x18_1 ∧ Aside0 (spec_IsResource.j0 kq x18_1 a0_0 l0_1 a0_2 a0_3 a0_4 = some r) ∧ Aside0 (kq ≤ k) ∧ Aside0 (wc.heap[gb423]? = some (.cells #[.int .i64 a0_0, (.slice A0_1 l0_1.length c0_1), .int .i64 a0_2, .int .i64 a0_3, .int .i64 a0_4] 38 (0, 0))) ∧ Aside0 (Below w.heap.size w wc))
 case first =>
  have H := HC2.out
  clear HC2
  replace H := Option.bind_eq_some_iff.mp H
  obtain ⟨t424, A40, H⟩ := H
  replace H : (if t424 = true then ((spec_l5Bytes.f k l0_1).bind fun t425 => (if t425 = true then (spec_IsResource.j0 k (decide ((l0_1.length : Int) > 6)) a0_0 l0_1 a0_2 a0_3 a0_4) else (spec_IsResource.j0 k true a0_0 l0_1 a0_2 a0_3 a0_4))) else (spec_IsResource.j0 k true a0_0 l0_1 a0_2 a0_3 a0_4)) = some r := H
  have A4 := Aside0.mk A40
  clear A40
  by_cases c5 : t424 = true
  ·subst c5
   have H1 : ((spec_l5Bytes.f k l0_1).bind fun t425 => (if t425 = true then (spec_IsResource.j0 k (decide ((l0_1.length : Int) > 6)) a0_0 l0_1 a0_2 a0_3 a0_4) else (spec_IsResource.j0 k true a0_0 l0_1 a0_2 a0_3 a0_4))) = some r := by rw [if_pos rfl] at H; exact H
   clear H
   have H := H1
   clear H1
   replace H := Option.bind_eq_some_iff.mp H
   obtain ⟨t425, A60, H⟩ := H
   replace H : (if t425 = true then (spec_IsResource.j0 k (decide ((l0_1.length : Int) > 6)) a0_0 l0_1 a0_2 a0_3 a0_4) else (spec_IsResource.j0 k true a0_0 l0_1 a0_2 a0_3 a0_4)) = some r := H
   have A6 := Aside0.mk A60
   clear A60
   by_cases c7 : t425 = true
   ·subst c7
    have H1 : (spec_IsResource.j0 k (decide ((l0_1.length : Int) > 6)) a0_0 l0_1 a0_2 a0_3 a0_4) = some r := by rw [if_pos rfl] at H; exact H
    clear H
    have H := H1
    clear H1
    have H' := Aside0.mk H
    clear H
    obtain ⟨hcz8_0, hcz8_1, hcz8_2, hcz8_3, hcz8_4, hfz8_0, hfz8_1, hfz8_2, hfz8_3, hfz8_4⟩ := bc5 BK423
    go_wp2_with (first | ((with_reducible refine gate_callee (f := 91) rfl ?_); refine goesL_ (some 5) rfl rfl Try.func91 KR rfl #[.int .i64 a0_0, .int .i64 1, .int .i64 4] rfl AR ?_; (with_reducible refine (spec_l1In.calls a0_0 1 4 true _ A4.out).mono ?_); rintro e w' ⟨rfl, ⟨nd, rfl⟩⟩; refine ⟨_, rfl, ?_⟩) | (go_at_call 152; (with_reducible refine (spec_l5Bytes.calls k _ _ l0_1 true _ ?side1 ?side2 A6.out).mono ?_); (case side1 => repeat (first | exact (Kd.C_below HR0_1.out PB) | (with_reducible refine Kd.C_alloc ?_ _) | (with_reducible refine Kd.C_drewN ?_ _) | (with_reducible refine Kd.C_drew ?_))); (case side2 => exact HC0_1.out); rintro e w' ⟨rfl, ⟨nd, rfl⟩⟩))
    go_meet
    case rel => exact ⟨_, (decide ((l0_1.length : Int) > 6)), (by first | rfl | (simp; done) | (simp [*]; done)), H', ⟨by first | omega | exact Nat.le_refl _⟩, ⟨PK BK423⟩, ⟨PB⟩⟩
   ·replace c7 := Bool.eq_false_iff.mpr c7
    subst c7
    have H1 : (spec_IsResource.j0 k true a0_0 l0_1 a0_2 a0_3 a0_4) = some r := by rw [if_neg (show ¬ (false = true) by decide)] at H; exact H
    clear H
    have H := H1
    clear H1
    have H' := Aside0.mk H
    clear H
    obtain ⟨hcz9_0, hcz9_1, hcz9_2, hcz9_3, hcz9_4, hfz9_0, hfz9_1, hfz9_2, hfz9_3, hfz9_4⟩ := bc5 BK423
    go_wp2_with (first | ((with_reducible refine gate_callee (f := 91) rfl ?_); refine goesL_ (some 5) rfl rfl Try.func91 KR rfl #[.int .i64 a0_0, .int .i64 1, .int .i64 4] rfl AR ?_; (with_reducible refine (spec_l1In.calls a0_0 1 4 true _ A4.out).mono ?_); rintro e w' ⟨rfl, ⟨nd, rfl⟩⟩; refine ⟨_, rfl, ?_⟩) | (go_at_call 152; (with_reducible refine (spec_l5Bytes.calls k _ _ l0_1 false _ ?side1 ?side2 A6.out).mono ?_); (case side1 => repeat (first | exact (Kd.C_below HR0_1.out PB) | (with_reducible refine Kd.C_alloc ?_ _) | (with_reducible refine Kd.C_drewN ?_ _) | (with_reducible refine Kd.C_drew ?_))); (case side2 => exact HC0_1.out); rintro e w' ⟨rfl, ⟨nd, rfl⟩⟩))
    go_meet
    case rel => exact ⟨_, (true), (by first | rfl | (simp; done) | (simp [*]; done)), H', ⟨by first | omega | exact Nat.le_refl _⟩, ⟨PK BK423⟩, ⟨PB⟩⟩
  ·replace c5 := Bool.eq_false_iff.mpr c5
   subst c5
   have H1 : (spec_IsResource.j0 k true a0_0 l0_1 a0_2 a0_3 a0_4) = some r := by rw [if_neg (show ¬ (false = true) by decide)] at H; exact H
   clear H
   have H := H1
   clear H1
   have H' := Aside0.mk H
   clear H
   obtain ⟨hcz10_0, hcz10_1, hcz10_2, hcz10_3, hcz10_4, hfz10_0, hfz10_1, hfz10_2, hfz10_3, hfz10_4⟩ := bc5 BK423
   go_wp2_with (first | ((with_reducible refine gate_callee (f := 91) rfl ?_); refine goesL_ (some 5) rfl rfl Try.func91 KR rfl #[.int .i64 a0_0, .int .i64 1, .int .i64 4] rfl AR ?_; (with_reducible refine (spec_l1In.calls a0_0 1 4 false _ A4.out).mono ?_); rintro e w' ⟨rfl, ⟨nd, rfl⟩⟩; refine ⟨_, rfl, ?_⟩))
   go_meet
   case rel => exact ⟨_, (true), (by first | rfl | (simp; done) | (simp [*]; done)), H', ⟨by first | omega | exact Nat.le_refl _⟩, ⟨PK BK423⟩, ⟨PB⟩⟩
 case rest =>
  clear HC2
  (try clear c1); (try clear p2); (try clear c5); (try clear c7); (try clear c9); (try clear hcz10_0); (try clear hcz10_1); (try clear hcz10_2); (try clear hcz10_3); (try clear hcz10_4); (try clear hcz8_0); (try clear hcz8_1); (try clear hcz8_2); (try clear hcz8_3); (try clear hcz8_4); (try clear hcz9_0); (try clear hcz9_1); (try clear hcz9_2); (try clear hcz9_3); (try clear hcz9_4); (try clear hfz10_0); (try clear hfz10_1); (try clear hfz10_2); (try clear hfz10_3); (try clear hfz10_4); (try clear hfz8_0); (try clear hfz8_1); (try clear hfz8_2); (try clear hfz8_3); (try clear hfz8_4); (try clear hfz9_0); (try clear hfz9_1); (try clear hfz9_2); (try clear hfz9_3); (try clear hfz9_4)
  obtain ⟨kq, x18_1, rfl, HA, HJ1, BK423, HB⟩ := hcut
  cases kq with
  | zero => exact absurd HA.out (by simp [spec_IsResource.j0])
  | succ kj1 =>
   have H := HA.out
   clear HA
   simp only [spec_IsResource.j0] at H
   by_cases c11 : x18_1 = true
   ·subst c11
    have H1 : (some false) = some r := by rw [if_pos rfl] at H; exact H
    clear H
    have H := H1
    clear H1
    obtain rfl := Option.some.inj H
    go_wp2
    go_ret
    exact ⟨RT, PB⟩
   ·replace c11 := Bool.eq_false_iff.mpr c11
    subst c11
    have H1 : (if a0_0 = 3 then ((spec_IsAddress.f a0_2 a0_3 a0_4).bind fun t426 => (if t426 = true then (some ((l0_1.length : Int) == 0)) else (some false))) else (if (a0_2 == 0 && (a0_3 == 0 && (a0_4 == 0))) = true then (if a0_0 = 4 then (some ((l0_1.length : Int) == 0)) else (some true)) else (some false))) = some r := by rw [if_neg (show ¬ (false = true) by decide)] at H; exact H
    clear H
    have H := H1
    clear H1
    by_cases c12 : a0_0 = 3
    ·rw [if_pos c12] at H
     have c12b0 : (a0_0 == 3) = true := beq_iff_eq.mpr c12
     have c12b1 : (a0_0 != 3) = false := bne_eq_false_iff_eq.mpr c12
     clear c12
     replace H := Option.bind_eq_some_iff.mp H
     obtain ⟨t426, A130, H⟩ := H
     replace H : (if t426 = true then (some ((l0_1.length : Int) == 0)) else (some false)) = some r := H
     have A13 := Aside0.mk A130
     clear A130
     by_cases c14 : t426 = true
     ·subst c14
      have H1 : (some ((l0_1.length : Int) == 0)) = some r := by rw [if_pos rfl] at H; exact H
      clear H
      have H := H1
      clear H1
      obtain rfl := Option.some.inj H
      obtain ⟨_, _, _, _, _, _, _, _, _, _⟩ := bc5 BK423
      go_wp2_with (first | ((with_reducible refine gate_callee (f := 108) rfl ?_); refine goesL_ (some 24) rfl rfl Try.func108 KR rfl #[.agg #[.int .i64 a0_2, .int .i64 a0_3, .int .i64 a0_4]] rfl AR ?_; (with_reducible refine (spec_IsAddress.calls a0_2 a0_3 a0_4 true _ A13.out).mono ?_); rintro e w16 ⟨rfl, hb⟩; refine ⟨_, rfl, ?_⟩; replace BK423 := kf BK423 hb; replace HB := bs HB hb; (try clear hb); (try clear hb2); (try clear hk); (try clear hi); obtain ⟨_, _, _, _, _, _, _, _, _, _⟩ := bc5 BK423))
      go_ret
      exact ⟨RT, PB⟩
     ·replace c14 := Bool.eq_false_iff.mpr c14
      subst c14
      have H1 : (some false) = some r := by rw [if_neg (show ¬ (false = true) by decide)] at H; exact H
      clear H
      have H := H1
      clear H1
      obtain rfl := Option.some.inj H
      obtain ⟨_, _, _, _, _, _, _, _, _, _⟩ := bc5 BK423
      go_wp2_with (first | ((with_reducible refine gate_callee (f := 108) rfl ?_); refine goesL_ (some 24) rfl rfl Try.func108 KR rfl #[.agg #[.int .i64 a0_2, .int .i64 a0_3, .int .i64 a0_4]] rfl AR ?_; (with_reducible refine (spec_IsAddress.calls a0_2 a0_3 a0_4 false _ A13.out).mono ?_); rintro e w19 ⟨rfl, hb⟩; refine ⟨_, rfl, ?_⟩; replace BK423 := kf BK423 hb; replace HB := bs HB hb; (try clear hb); (try clear hb2); (try clear hk); (try clear hi)))
      go_ret
      exact ⟨RT, PB⟩
    ·rw [if_neg c12] at H
     have c12b0 : (a0_0 == 3) = false := beq_eq_false_iff_ne.mpr c12
     have c12b1 : (a0_0 != 3) = true := bne_iff_ne.mpr c12
     by_cases c20 : (a0_2 == 0 && (a0_3 == 0 && (a0_4 == 0))) = true
     ·rw [if_pos c20] at H
      have c20b0 : (a0_2 == 0 && (a0_3 == 0 && (a0_4 == 0))) = true := c20
      (try (have c20b1 : decide (a0_2 = 0 && (a0_3 == 0 && (a0_4 == 0))) = true := by simpa using c20))
      (try (have c20b2 : (a0_2 == 0 && (a0_3 == 0 && (a0_4 == 0))) = true := by simpa using c20))
      clear c20
      by_cases c21 : a0_0 = 4
      ·rw [if_pos c21] at H
       have c21b0 : (a0_0 == 4) = true := beq_iff_eq.mpr c21
       have c21b1 : (a0_0 != 4) = false := bne_eq_false_iff_eq.mpr c21
       clear c21
       obtain rfl := Option.some.inj H
       obtain ⟨_, _, _, _, _, _, _, _, _, _⟩ := bc5 BK423
       go_wp2
       go_ret
       exact ⟨RT, PB⟩
      ·rw [if_neg c21] at H
       have c21b0 : (a0_0 == 4) = false := beq_eq_false_iff_ne.mpr c21
       have c21b1 : (a0_0 != 4) = true := bne_iff_ne.mpr c21
       obtain rfl := Option.some.inj H
       obtain ⟨_, _, _, _, _, _, _, _, _, _⟩ := bc5 BK423
       go_wp2
       go_ret
       exact ⟨RT, PB⟩
     ·rw [if_neg c20] at H
      have c20b0 : (a0_2 == 0 && (a0_3 == 0 && (a0_4 == 0))) = false := by simpa using c20
      (try (have c20b1 : decide (a0_2 = 0 && (a0_3 == 0 && (a0_4 == 0))) = false := by simpa using c20))
      (try (have c20b2 : (a0_2 == 0 && (a0_3 == 0 && (a0_4 == 0))) = false := by simpa using c20))
      (try (have c20b3 : ¬ (a0_2 = 0 && (a0_3 == 0 && (a0_4 == 0))) := by simpa using c20))
      clear c20
      obtain rfl := Option.some.inj H
      obtain ⟨hcz24_0, hcz24_1, hcz24_2, _, _, hfz24_0, hfz24_1, hfz24_2, _, _⟩ := bc5 BK423
      go_wp2
      go_ret
      exact ⟨RT, PB⟩

end Go.Proofs.Ytgcamebeonodeaa.MFnForms
