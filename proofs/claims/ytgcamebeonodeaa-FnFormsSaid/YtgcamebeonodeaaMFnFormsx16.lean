-- Written by a program of this session out of the translation's own print. Not trusted: Lean checks it.
import Derived.Test.YtgcamebeonodeaaShr2
import Derived.Test.YtgcamebeonodeaaMFnFormsx0
import Derived.Test.YtgcamebeonodeaaMFnFormsx1
import Derived.Test.YtgcamebeonodeaaMFnFormsx2
import Derived.Test.YtgcamebeonodeaaMFnFormsx3
import Derived.Test.YtgcamebeonodeaaMFnFormsx4
import Derived.Test.YtgcamebeonodeaaMFnFormsx5
import Derived.Test.YtgcamebeonodeaaMFnFormsx9
import Derived.Test.YtgcamebeonodeaaMFnFormsx10
import Derived.Test.YtgcamebeonodeaaMFnFormsx11
import Derived.Test.YtgcamebeonodeaaMFnFormsx12
import Derived.Test.YtgcamebeonodeaaMFnFormsx15
namespace Go.Proofs.Ytgcamebeonodeaa.MFnForms
open Go.RowKit Go.Proofs.YtgcamebeonodeaaW.PrintWords Go.Proofs.YtgcamebeonodeaaW.PrintLast Go.Proofs.YtgcamebeonodeaaW.PrintMore
attribute [local go_sem] max2_int min2_int max_two min_two max_three min_three max_four min_four   -- for this text's walks alone
set_option linter.unusedVariables false
set_option linter.unusedSimpArgs false

attribute [local go_sem high] eqA26 eqA85
abbrev b16_0 : Array Bool := mkB 12 4095
abbrev b16_1 : Array Bool := mkB 12 2047
abbrev b16_2 : Array Bool := mkB 12 1023
abbrev b16_3 : Array Bool := mkB 12 511
abbrev b16_4 : Array Bool := mkB 12 255
abbrev b16_5 : Array Bool := mkB 12 127
abbrev b16_6 : Array Bool := mkB 12 63
abbrev b16_7 : Array Bool := mkB 12 31
abbrev b16_8 : Array Bool := mkB 12 15
abbrev b16_9 : Array Bool := mkB 12 11
abbrev b16_10 : Array Bool := mkB 12 3
abbrev b16_11 : Array Bool := mkB 12 1
abbrev b16_12 : Array Bool := #[false, false, false, false, false, false, false, false, false, false, false, false]
theorem bq16 {w : World} {g : Nat} {t : TypeId} {cs : Array Value} {v : Value} (b : Aside0 (w.heap[g]? = some (.cells cs t (0, 0)))) (i : Nat) (h : cs[i]? = some v := by rfl) : w.cell? ⟨g, i, none⟩ = some v := (blk_cell b.out i).trans h
theorem od16 {p : Prop} [Decidable p] (h : decide p = true := by first | (with_reducible assumption) | assumption) : p := of_decide_eq_true h
/-! ### laws_FnForms: function 8 -/
mutual
def laws_FnForms.j0 : Nat → List Int → List (S40) → Bool → Int → Int → Int → Int → Int → Int → Bool → Option (Bool)
  | 0, _, _, _, _, _, _, _, _, _, _ => none
  | k + 1, x0, x3, x37, x550000, x550001, x550002, x555000, x555001, x555002, x555003 => if x37 = true then (some (x555000 == 0 && (x555001 == 0 && (x555002 == 0 && (!x555003))))) else ((impl_CountFits.f k x555000 x555001 x555002 x555003 x3 x550000 x550001 x550002).bind fun t559 => (if t559 > x555002 then (laws_FnForms.j1 k x0 x3 true x550000 x550001 x550002 x555000 x555001 x555002 x555003) else (if (x555003 != (t559 == x555002)) = true then (laws_FnForms.j1 k x0 x3 true x550000 x550001 x550002 x555000 x555001 x555002 x555003) else (if x555000 < 0 then (laws_FnForms.j1 k x0 x3 true x550000 x550001 x550002 x555000 x555001 x555002 x555003) else (if x555000 > 999 then (laws_FnForms.j1 k x0 x3 true x550000 x550001 x550002 x555000 x555001 x555002 x555003) else (if x555001 < 0 then (laws_FnForms.j1 k x0 x3 true x550000 x550001 x550002 x555000 x555001 x555002 x555003) else (laws_FnForms.j1 k x0 x3 (decide (x555001 > 999)) x550000 x550001 x550002 x555000 x555001 x555002 x555003)))))))
def laws_FnForms.j1 : Nat → List Int → List (S40) → Bool → Int → Int → Int → Int → Int → Int → Bool → Option (Bool)
  | 0, _, _, _, _, _, _, _, _, _, _ => none
  | k + 1, x0, x3, x77, x550000, x550001, x550002, x555000, x555001, x555002, x555003 => if x77 = true then (some false) else (laws_FnForms.l0 k x0 x3 0 x550000 x550001 x550002 x555000 x555001 x555002 x555003)
def laws_FnForms.l0 : Nat → List Int → List (S40) → Int → Int → Int → Int → Int → Int → Int → Bool → Option (Bool)
  | 0, _, _, _, _, _, _, _, _, _, _ => none
  | k + 1, x0, x3, x7, x550000, x550001, x550002, x555000, x555001, x555002, x555003 => if x7 < (x3.length : Int) then (if 0 ≤ x7 then ((impl_WithoutQuery.f ((rd_T40 x3 x7).f0.f0) ((rd_T40 x3 x7).f0.f1) ((rd_T40 x3 x7).f0.f2)).bind fun bt570 => ((impl_WithoutQuery.f x550000 x550001 x550002).bind fun bt573 => (if (!(bt570.1 == bt573.1) || (!(bt570.2.1 == bt573.2.1) || (!(bt570.2.2 == bt573.2.2)))) = true then (laws_FnForms.l0 k x0 x3 (wrap64 (x7 + 1)) x550000 x550001 x550002 x555000 x555001 x555002 x555003) else (if ((rd_T40 x3 x7).f2.f0) > 2 then (laws_FnForms.l0 k x0 x3 (wrap64 (x7 + 1)) x550000 x550001 x550002 x555000 x555001 x555002 x555003) else ((impl_GuessForm.f x555000 x555001 x555002 x555003 ((rd_T40 x3 x7).f0.f2)).bind fun bt576 => (if x555003 = true then (if (bt576.2 != (decide (x555002 ≥ 2))) = true then (some false) else (if bt576.2 = true then ((impl_ValueOfResource.f k ((rd_T40 x3 x7).f2.f0) ((rd_T40 x3 x7).f2.f1) ((rd_T40 x3 x7).f2.f2.f0) ((rd_T40 x3 x7).f2.f2.f1) ((rd_T40 x3 x7).f2.f2.f2)).bind fun t578 => (if bt576.1 = t578 then ((impl_FitsForm.f k x555000 x555001 x555002 x555003 ((rd_T40 x3 x7).f0.f0) ((rd_T40 x3 x7).f0.f1) ((rd_T40 x3 x7).f0.f2) ((rd_T40 x3 x7).f1) ((rd_T40 x3 x7).f2.f0) ((rd_T40 x3 x7).f2.f1) ((rd_T40 x3 x7).f2.f2.f0) ((rd_T40 x3 x7).f2.f2.f1) ((rd_T40 x3 x7).f2.f2.f2)).bind fun t579 => (if t579 = true then (laws_FnForms.l0 k x0 x3 (wrap64 (x7 + 1)) x550000 x550001 x550002 x555000 x555001 x555002 x555003) else (some false))) else (some false))) else (laws_FnForms.l0 k x0 x3 (wrap64 (x7 + 1)) x550000 x550001 x550002 x555000 x555001 x555002 x555003))) else (if (bt576.2 != false) = true then (some false) else (if bt576.2 = true then ((impl_ValueOfResource.f k ((rd_T40 x3 x7).f2.f0) ((rd_T40 x3 x7).f2.f1) ((rd_T40 x3 x7).f2.f2.f0) ((rd_T40 x3 x7).f2.f2.f1) ((rd_T40 x3 x7).f2.f2.f2)).bind fun t580 => (if bt576.1 = t580 then ((impl_FitsForm.f k x555000 x555001 x555002 x555003 ((rd_T40 x3 x7).f0.f0) ((rd_T40 x3 x7).f0.f1) ((rd_T40 x3 x7).f0.f2) ((rd_T40 x3 x7).f1) ((rd_T40 x3 x7).f2.f0) ((rd_T40 x3 x7).f2.f1) ((rd_T40 x3 x7).f2.f2.f0) ((rd_T40 x3 x7).f2.f2.f1) ((rd_T40 x3 x7).f2.f2.f2)).bind fun t581 => (if t581 = true then (laws_FnForms.l0 k x0 x3 (wrap64 (x7 + 1)) x550000 x550001 x550002 x555000 x555001 x555002 x555003) else (some false))) else (some false))) else (laws_FnForms.l0 k x0 x3 (wrap64 (x7 + 1)) x550000 x550001 x550002 x555000 x555001 x555002 x555003))))))))) else (none)) else ((spec_DrawGuessForm.f k x0).bind fun bt560 => ((impl_GuessForm.f bt560.1 bt560.2.1 bt560.2.2.1 bt560.2.2.2.1 bt560.2.2.2.2).bind fun bt566 => (if bt566.1 ≥ 0 then (if bt566.1 ≤ 999 then (if bt566.2 = true then (some bt560.2.2.2.1) else (some true)) else (some false)) else (some false))))
end
def laws_FnForms.f (k : Nat) (l0 : List Int) : Option (Bool) := (laws_big.f l0).bind fun t542 => (if t542 = true then (some true) else ((spec_DrawLearnForm.f k l0).bind fun bt543 => ((impl_LearnForm.f k bt543.1 bt543.2.1 bt543.2.2.1 bt543.2.2.2).bind fun bt550 => ((impl_AreCaptures.f k bt543.1).bind fun t555 => ((spec_AreCaptures.f k bt543.1).bind fun t556 => (if (t555 != t556) = true then (some false) else ((impl_AreCaptures.f k bt543.1).bind fun t557 => (if t557 = true then ((impl_IsAddress.f bt543.2.1 bt543.2.2.1 bt543.2.2.2).bind fun t558 => (laws_FnForms.j0 k l0 bt543.1 (!t558) bt543.2.1 bt543.2.2.1 bt543.2.2.2 bt550.1 bt550.2.1 bt550.2.2.1 bt550.2.2.2)) else (laws_FnForms.j0 k l0 bt543.1 true bt543.2.1 bt543.2.2.1 bt543.2.2.2 bt550.1 bt550.2.1 bt550.2.2.1 bt550.2.2.2)))))))))
def laws_FnForms.T16 : Bool × List (List Nat × List Nat) := (true, [([], []), ([0], [0]), ([1], [1]), ([], []), ([3, 2], [3]), ([2, 4], [2, 4]), ([5, 4], [5]), ([6], [6]), ([7, 6], [6, 7]), ([8, 6], [6, 8]), ([9, 6], [6, 9]), ([6, 10], [6, 10])])
def laws_FnForms.B16 : List Nat := [0, 1, 3, 0, 15, 31, 63, 127, 255, 511, 1023, 2047]
theorem laws_FnForms.tab16 : rtab .any (opsOf Try.f8 16) = laws_FnForms.T16 := by kernel_rfl
theorem laws_FnForms.bits16 : waitsOk laws_FnForms.T16.2 laws_FnForms.B16 = true := by kernel_rfl
set_option maxHeartbeats 64000000 in
set_option maxRecDepth 100000 in
theorem laws_FnForms.calls (k : Nat) (A0 : Option Addr) (c0 : Nat) (l0 : List Int) (r : Bool) (w : World) (hr0 : Kd.C (Kd.int .u8) w A0 l0.length l0) (hc0 : l0.length ≤ c0) (hT_ : r = true) (h : laws_FnForms.f k l0 = some r) :
  Calls Try.prog 8 #[.slice A0 l0.length c0] w fun e w' => e = .returned (.bool r) ∧ Below w.heap.size w w' := by
 have hu26 := Try.underlying26; have hu85 := Try.underlying85; have hu40 := Try.underlying40; have hu38 := Try.underlying38; have HR0 := Aside0.mk hr0; have HC0 := Aside0.mk hc0; clear hr0 hc0; have HB := ak (Below.refl w.heap.size w)
 have H : ((laws_big.f l0).bind fun t542 => (if t542 = true then (some true) else ((spec_DrawLearnForm.f k l0).bind fun bt543 => ((impl_LearnForm.f k bt543.1 bt543.2.1 bt543.2.2.1 bt543.2.2.2).bind fun bt550 => ((impl_AreCaptures.f k bt543.1).bind fun t555 => ((spec_AreCaptures.f k bt543.1).bind fun t556 => (if (t555 != t556) = true then (some false) else ((impl_AreCaptures.f k bt543.1).bind fun t557 => (if t557 = true then ((impl_IsAddress.f bt543.2.1 bt543.2.2.1 bt543.2.2.2).bind fun t558 => (laws_FnForms.j0 k l0 bt543.1 (!t558) bt543.2.1 bt543.2.2.1 bt543.2.2.2 bt550.1 bt550.2.1 bt550.2.2.1 bt550.2.2.2)) else (laws_FnForms.j0 k l0 bt543.1 true bt543.2.1 bt543.2.2.1 bt543.2.2.2 bt550.1 bt550.2.1 bt550.2.2.1 bt550.2.2.2)))))))))) = some r := h
 clear h; replace H := Option.bind_eq_some_iff.mp H
 obtain ⟨t542, A20, H⟩ := H
 replace H : (if t542 = true then (some true) else ((spec_DrawLearnForm.f k l0).bind fun bt543 => ((impl_LearnForm.f k bt543.1 bt543.2.1 bt543.2.2.1 bt543.2.2.2).bind fun bt550 => ((impl_AreCaptures.f k bt543.1).bind fun t555 => ((spec_AreCaptures.f k bt543.1).bind fun t556 => (if (t555 != t556) = true then (some false) else ((impl_AreCaptures.f k bt543.1).bind fun t557 => (if t557 = true then ((impl_IsAddress.f bt543.2.1 bt543.2.2.1 bt543.2.2.2).bind fun t558 => (laws_FnForms.j0 k l0 bt543.1 (!t558) bt543.2.1 bt543.2.2.1 bt543.2.2.2 bt550.1 bt550.2.1 bt550.2.2.1 bt550.2.2.2)) else (laws_FnForms.j0 k l0 bt543.1 true bt543.2.1 bt543.2.2.1 bt543.2.2.2 bt550.1 bt550.2.1 bt550.2.2.1 bt550.2.2.2))))))))) = some r := H
 have A2 := Aside0.mk A20; clear A20
 by_cases c3 : t542 = true
 ·subst c3
  have H1 : (some true) = some r := by rw [if_pos rfl] at H; exact H
  clear H; have H := H1; clear H1
  obtain rfl := Option.some.inj H
  go_enter Try.func8, Try.ntmps8
  go_wp2_with (first | ((with_reducible refine gate_callee (f := 10) rfl ?_); refine goesL_ (some 16) rfl rfl Try.func10 KR rfl #[.slice A0 l0.length c0] rfl AR ?_; (with_reducible refine (laws_big.calls _ _ l0 true _ ?side1 ?side2 A2.out).mono ?_); (case side1 => exact CR (HR0.out)); (case side2 => exact HC0.out); rintro e w' ⟨rfl, ⟨nd, rfl⟩⟩; refine ⟨_, rfl, ?_⟩))
  go_ret
  exact ⟨RT, PB⟩
 ·replace c3 := Bool.eq_false_iff.mpr c3
  subst c3
  have H1 : ((spec_DrawLearnForm.f k l0).bind fun bt543 => ((impl_LearnForm.f k bt543.1 bt543.2.1 bt543.2.2.1 bt543.2.2.2).bind fun bt550 => ((impl_AreCaptures.f k bt543.1).bind fun t555 => ((spec_AreCaptures.f k bt543.1).bind fun t556 => (if (t555 != t556) = true then (some false) else ((impl_AreCaptures.f k bt543.1).bind fun t557 => (if t557 = true then ((impl_IsAddress.f bt543.2.1 bt543.2.2.1 bt543.2.2.2).bind fun t558 => (laws_FnForms.j0 k l0 bt543.1 (!t558) bt543.2.1 bt543.2.2.1 bt543.2.2.2 bt550.1 bt550.2.1 bt550.2.2.1 bt550.2.2.2)) else (laws_FnForms.j0 k l0 bt543.1 true bt543.2.1 bt543.2.2.1 bt543.2.2.2 bt550.1 bt550.2.1 bt550.2.2.1 bt550.2.2.2)))))))) = some r := by rw [if_neg (show ¬ (false = true) by decide)] at H; exact H
  clear H; have H := H1; clear H1; replace H := Option.bind_eq_some_iff.mp H
  obtain ⟨⟨t543, t546, t547, t548⟩, A40, H⟩ := H
  replace H : ((impl_LearnForm.f k t543 t546 t547 t548).bind fun bt550 => ((impl_AreCaptures.f k t543).bind fun t555 => ((spec_AreCaptures.f k t543).bind fun t556 => (if (t555 != t556) = true then (some false) else ((impl_AreCaptures.f k t543).bind fun t557 => (if t557 = true then ((impl_IsAddress.f t546 t547 t548).bind fun t558 => (laws_FnForms.j0 k l0 t543 (!t558) t546 t547 t548 bt550.1 bt550.2.1 bt550.2.2.1 bt550.2.2.2)) else (laws_FnForms.j0 k l0 t543 true t546 t547 t548 bt550.1 bt550.2.1 bt550.2.2.1 bt550.2.2.2))))))) = some r := H
  have A4 := Aside0.mk A40; clear A40; replace H := Option.bind_eq_some_iff.mp H
  obtain ⟨⟨t550, t551, t552, t553⟩, A50, H⟩ := H
  replace H : ((impl_AreCaptures.f k t543).bind fun t555 => ((spec_AreCaptures.f k t543).bind fun t556 => (if (t555 != t556) = true then (some false) else ((impl_AreCaptures.f k t543).bind fun t557 => (if t557 = true then ((impl_IsAddress.f t546 t547 t548).bind fun t558 => (laws_FnForms.j0 k l0 t543 (!t558) t546 t547 t548 t550 t551 t552 t553)) else (laws_FnForms.j0 k l0 t543 true t546 t547 t548 t550 t551 t552 t553)))))) = some r := H
  have A5 := Aside0.mk A50; clear A50; replace H := Option.bind_eq_some_iff.mp H
  obtain ⟨t555, A60, H⟩ := H
  replace H : ((spec_AreCaptures.f k t543).bind fun t556 => (if (t555 != t556) = true then (some false) else ((impl_AreCaptures.f k t543).bind fun t557 => (if t557 = true then ((impl_IsAddress.f t546 t547 t548).bind fun t558 => (laws_FnForms.j0 k l0 t543 (!t558) t546 t547 t548 t550 t551 t552 t553)) else (laws_FnForms.j0 k l0 t543 true t546 t547 t548 t550 t551 t552 t553))))) = some r := H
  have A6 := Aside0.mk A60; clear A60; replace H := Option.bind_eq_some_iff.mp H
  obtain ⟨t556, A70, H⟩ := H
  replace H : (if (t555 != t556) = true then (some false) else ((impl_AreCaptures.f k t543).bind fun t557 => (if t557 = true then ((impl_IsAddress.f t546 t547 t548).bind fun t558 => (laws_FnForms.j0 k l0 t543 (!t558) t546 t547 t548 t550 t551 t552 t553)) else (laws_FnForms.j0 k l0 t543 true t546 t547 t548 t550 t551 t552 t553)))) = some r := H
  have A7 := Aside0.mk A70; clear A70
  by_cases c8 : (t555 != t556) = true
  ·rw [if_pos c8] at H
   have c8b0 : (t555 != t556) = true := c8
   (try (have c8b1 : decide (t555 = t556) = false := by simpa using c8))
   (try (have c8b2 : (t555 == t556) = false := by simpa using c8))
   (try (have c8b3 : ¬ (t555 = t556) := by simpa using c8))
   clear c8
   cases (Option.some.inj H).trans hT_
  ·rw [if_neg c8] at H
   have c8b0 : (t555 != t556) = false := by simpa using c8
   (try (have c8b1 : decide (t555 = t556) = true := by simpa using c8))
   (try (have c8b2 : (t555 == t556) = true := by simpa using c8))
   clear c8; have HC21 := Aside0.mk H; clear H
   go_enter Try.func8, Try.ntmps8
   go_upto_region 7 with (first | ((with_reducible refine gate_callee (f := 10) rfl ?_); refine goesL_ (some 16) rfl rfl Try.func10 KR rfl #[.slice A0 l0.length c0] rfl AR ?_; (with_reducible refine (laws_big.calls _ _ l0 false _ ?side1 ?side2 A2.out).mono ?_); (case side1 => exact CR (HR0.out)); (case side2 => exact HC0.out); rintro e w' ⟨rfl, ⟨nd, rfl⟩⟩; refine ⟨_, rfl, ?_⟩) | ((with_reducible refine gate_callee (f := 54) rfl ?_); refine goesL_ (some 19) rfl rfl Try.func54 KR rfl #[.slice A0 l0.length c0] rfl AR ?_; (with_reducible refine (spec_DrawLearnForm.calls k _ _ l0 t543 t546 t547 t548 _ ?side1 ?side2 A4.out).mono ?_); (case side1 => exact CR (HR0.out)); (case side2 => exact HC0.out); rintro e w22 ⟨v544, rfl, ho0, hb⟩; refine ⟨_, rfl, ?_⟩; have HO545 := ak (Kd.S_lower ho0 (below_size PB)); replace HB := bs HB hb; (try clear hb); (try clear hb2); (try clear hk); (try clear hi); (try clear ho0)) | ((with_reducible refine gate_dst (N := 4) rfl ?_); refine bx_ (N := 4) #[.int .i64 0, .int .i64 0, .int .i64 0] 26 ?_; intro gb549 hg w23 hbox hb; replace HO545 := Sb HO545 hb; have BK549 := ak hbox; have GW549 := gy hg HB; have GE549 := gy hg HB; replace HB := bs HB hb; clear hb hbox hg; obtain ⟨hcz24_0, hcz24_1, hcz24_2, hfz24_0, hfz24_1, hfz24_2⟩ := bc3 BK549) | ((with_reducible refine gate_store (t := 26) (p := 4) rfl ?_); refine store_event (t := 26) (p := 4) (v := ?vo_w25) (w1 := (((w23.setCell ⟨gb549, 0, none⟩ (.int .i64 t546)).setCell ⟨gb549, 1, none⟩ (.int .i64 t547)).setCell ⟨gb549, 2, none⟩ (.int .i64 t548))) ?hg ?ho ?hn ?hr ?_; (case ho => rfl); (case hg => rfl); (case hn => rfl); (case hr => first | (go_simp; done) | (go_simp; rfl)); intro w25 hw; replace HO545 : Aside0 (Kd.S k40 40 w25 w.heap.size (fun _ => True) v544 t543) := ⟨(by rw [hw]; exact (SX (St HO545.out BK549) (fun _ hk => trivial)))⟩; replace BK549 : Aside0 (w25.heap[gb549]? = some (.cells #[.int .i64 t546, .int .i64 t547, .int .i64 t548] 26 (0, 0))) := ⟨(by rw [hw]; exact (PX BK549))⟩; replace HB : Aside0 (Below w.heap.size w w25) := ⟨(by rw [hw]; exact PB)⟩; clear hw; obtain ⟨hcz26_0, hcz26_1, hcz26_2, hfz26_0, hfz26_1, hfz26_2⟩ := bc3 BK549; obtain ⟨Ao27, co27, eo27⟩ := Kd.S_slice HO545.out; subst eo27) | ((with_reducible refine gate_callee (f := 51) rfl ?_); refine goesL_ (some 24) rfl rfl Try.func51 KR rfl #[.slice Ao27 t543.length co27, .agg #[.int .i64 t546, .int .i64 t547, .int .i64 t548]] rfl AR ?_; (with_reducible refine (impl_LearnForm.calls k (fun k_ => (True ∧ k_ ≠ gb549)) _ _ t543 t546 t547 t548 t550 t551 t552 t553 _ ?side1 A5.out).mono ?_); (case side1 => exact Kd.S_V (Kd.S_types (HO545.out) BK549.out (by decide))); rintro e w28 ⟨rfl, hb⟩; refine ⟨_, rfl, ?_⟩; replace HO545 := Sb HO545 hb; replace BK549 := kf BK549 hb; replace HB := bs HB hb; (try clear hb); (try clear hb2); (try clear hk); (try clear hi)) | ((with_reducible refine gate_dst (N := 5) rfl ?_); refine bx_ (N := 5) #[.int .i64 0, .int .i64 0, .int .i64 0, .bool false] 85 ?_; intro gb554 hg w29 hbox hb; replace HO545 := Sb HO545 hb; have BK554 := ak hbox; have GW554 := gy hg HB; have GE554 := gy hg HB; replace HB := bs HB hb; have NB549_554 := gm hg BK549; have NB554_549 := gn hg BK549; replace BK549 := kf BK549 hb; clear hb hbox hg; have hnb30 := NB554_549.out; have hnc30 := NB549_554.out; obtain ⟨hcz31_0, hcz31_1, hcz31_2, hcz31_3, hfz31_0, hfz31_1, hfz31_2, hfz31_3⟩ := bc4 BK554) | ((with_reducible refine gate_callee (f := 14) rfl ?_); refine goesL_ (some 26) rfl rfl Try.func14 KR rfl #[.slice Ao27 t543.length co27] rfl AR ?_; (with_reducible refine (impl_AreCaptures.calls k _ _ t543 t555 _ ?side1 ?side2 A6.out).mono ?_); (case side1 => exact (Kd.S_reads' (Se1 HO545 BK554)).2.2); (case side2 => exact (Kd.S_reads' HO545.out).2.1); rintro e w32 ⟨rfl, hb⟩; refine ⟨_, rfl, ?_⟩; replace HO545 := ak (Kd.S_below (Se1 HO545 BK554) hb); replace BK549 := kf BK549 hb; replace BK554 := kp (cs' := #[.int .i64 t550, .int .i64 t551, .int .i64 t552, .bool t553]) BK554 hb; replace HB := bs HB hb; (try clear hb); (try clear hb2); (try clear hk); (try clear hi)) | ((with_reducible refine gate_callee (f := 55) rfl ?_); refine goesL_ (some 28) rfl rfl Try.func55 KR rfl #[.slice Ao27 t543.length co27] rfl AR ?_; (with_reducible refine (spec_AreCaptures.calls k _ _ t543 t556 _ ?side1 ?side2 A7.out).mono ?_); (case side1 => exact CR ((Kd.S_reads' HO545.out).2.2)); (case side2 => exact (Kd.S_reads' HO545.out).2.1); rintro e w33 ⟨rfl, hb⟩; refine ⟨_, rfl, ?_⟩; replace HO545 := Sb HO545 hb; replace BK549 := kf BK549 hb; replace BK554 := kf BK554 hb; replace HB := bs HB hb; (try clear hb); (try clear hb2); (try clear hk); (try clear hi)))
   (try simp only [Act.put, List.setIfInBounds_toArray, List.set_cons_zero, List.set_cons_succ])
   go_cut [37] (fun v37 wc => ∃ (kq : Nat) (x37_20 : Bool), v37 = .bool x37_20 ∧ Aside0 (laws_FnForms.j0 kq l0 t543 x37_20 t546 t547 t548 t550 t551 t552 t553 = some r) ∧ Aside0 (kq ≤ k) ∧ Aside0 (Kd.S k40 40 wc w.heap.size (fun _ => True) (.slice Ao27 t543.length co27) t543) ∧ Aside0 (wc.heap[gb549]? = some (.cells #[.int .i64 t546, .int .i64 t547, .int .i64 t548] 26 (0, 0))) ∧ Aside0 (wc.heap[gb554]? = some (.cells #[.int .i64 t550, .int .i64 t551, .int .i64 t552, .bool t553] 85 (0, 0))) ∧ Aside0 (Below w.heap.size w wc))
   case first =>
    have H := HC21.out; clear HC21; replace H := Option.bind_eq_some_iff.mp H
    obtain ⟨t557, A340, H⟩ := H
    replace H : (if t557 = true then ((impl_IsAddress.f t546 t547 t548).bind fun t558 => (laws_FnForms.j0 k l0 t543 (!t558) t546 t547 t548 t550 t551 t552 t553)) else (laws_FnForms.j0 k l0 t543 true t546 t547 t548 t550 t551 t552 t553)) = some r := H
    have A34 := Aside0.mk A340; clear A340
    by_cases c35 : t557 = true
    ·subst c35
     have H1 : ((impl_IsAddress.f t546 t547 t548).bind fun t558 => (laws_FnForms.j0 k l0 t543 (!t558) t546 t547 t548 t550 t551 t552 t553)) = some r := by rw [if_pos rfl] at H; exact H
     clear H; have H := H1; clear H1; replace H := Option.bind_eq_some_iff.mp H
     obtain ⟨t558, A360, H⟩ := H
     replace H : (laws_FnForms.j0 k l0 t543 (!t558) t546 t547 t548 t550 t551 t552 t553) = some r := H
     have A36 := Aside0.mk A360; clear A360
     have H' := Aside0.mk H
     clear H
     go_wp2_with (first | ((with_reducible refine gate_callee (f := 14) rfl ?_); refine goesL_ (some 31) rfl rfl Try.func14 KR rfl #[.slice Ao27 t543.length co27] rfl AR ?_; (with_reducible refine (impl_AreCaptures.calls k _ _ t543 true _ ?side1 ?side2 A34.out).mono ?_); (case side1 => exact CR ((Kd.S_reads' HO545.out).2.2)); (case side2 => exact (Kd.S_reads' HO545.out).2.1); rintro e w37 ⟨rfl, hb⟩; refine ⟨_, rfl, ?_⟩; replace HO545 := Sb HO545 hb; replace BK549 := kf BK549 hb; replace BK554 := kf BK554 hb; replace HB := bs HB hb; (try clear hb); (try clear hb2); (try clear hk); (try clear hi); have hnb38 := NB549_554.out; have hnc38 := NB554_549.out; obtain ⟨hcz39_0, hcz39_1, hcz39_2, hfz39_0, hfz39_1, hfz39_2⟩ := bc3 BK549) | (go_at_call 27; (with_reducible refine (impl_IsAddress.calls t546 t547 t548 t558 _ A36.out).mono ?_); rintro e w40 ⟨rfl, hb⟩; replace HO545 := Sb HO545 hb; replace BK549 := kf BK549 hb; replace BK554 := kf BK554 hb; replace HB := bs HB hb; (try clear hb); (try clear hb2); (try clear hk); (try clear hi)))
     go_meet
     case rel => exact ⟨_, (!t558), (by first | rfl | (simp; done) | (simp [*]; done)), H', ⟨by first | omega | exact Nat.le_refl _⟩, ⟨PS HO545⟩, ⟨PK BK549⟩, ⟨PK BK554⟩, ⟨PB⟩⟩
    ·replace c35 := Bool.eq_false_iff.mpr c35
     subst c35
     have H1 : (laws_FnForms.j0 k l0 t543 true t546 t547 t548 t550 t551 t552 t553) = some r := by rw [if_neg (show ¬ (false = true) by decide)] at H; exact H
     clear H; have H := H1; clear H1
     have H' := Aside0.mk H
     clear H
     go_wp2_with (first | ((with_reducible refine gate_callee (f := 14) rfl ?_); refine goesL_ (some 31) rfl rfl Try.func14 KR rfl #[.slice Ao27 t543.length co27] rfl AR ?_; (with_reducible refine (impl_AreCaptures.calls k _ _ t543 false _ ?side1 ?side2 A34.out).mono ?_); (case side1 => exact CR ((Kd.S_reads' HO545.out).2.2)); (case side2 => exact (Kd.S_reads' HO545.out).2.1); rintro e w41 ⟨rfl, hb⟩; refine ⟨_, rfl, ?_⟩; replace HO545 := Sb HO545 hb; replace BK549 := kf BK549 hb; replace BK554 := kf BK554 hb; replace HB := bs HB hb; (try clear hb); (try clear hb2); (try clear hk); (try clear hi)))
     go_meet
     case rel => exact ⟨_, (true), (by first | rfl | (simp; done) | (simp [*]; done)), H', ⟨by first | omega | exact Nat.le_refl _⟩, ⟨PS HO545⟩, ⟨PK BK549⟩, ⟨PK BK554⟩, ⟨PB⟩⟩
   case rest =>
    clear HC21
    (try clear c1); (try clear p2); (try clear c3); (try clear c5); (try clear c8); (try clear c8b0); (try clear c8b1); (try clear c8b2); (try clear c10); (try clear c14); (try clear c17); (try clear c30); (try clear c35); (try clear c38); (try clear hcz11_0); (try clear hcz11_1); (try clear hcz11_2); (try clear hcz13_0); (try clear hcz13_1); (try clear hcz13_2); (try clear hcz18_0); (try clear hcz18_1); (try clear hcz18_2); (try clear hcz18_3); (try clear hcz24_0); (try clear hcz24_1); (try clear hcz24_2); (try clear hcz26_0); (try clear hcz26_1); (try clear hcz26_2); (try clear hcz31_0); (try clear hcz31_1); (try clear hcz31_2); (try clear hcz31_3); (try clear hcz39_0); (try clear hcz39_1); (try clear hcz39_2); (try clear hfz11_0); (try clear hfz11_1); (try clear hfz11_2); (try clear hfz13_0); (try clear hfz13_1); (try clear hfz13_2); (try clear hfz18_0); (try clear hfz18_1); (try clear hfz18_2); (try clear hfz18_3); (try clear hfz24_0); (try clear hfz24_1); (try clear hfz24_2); (try clear hfz26_0); (try clear hfz26_1); (try clear hfz26_2); (try clear hfz31_0); (try clear hfz31_1); (try clear hfz31_2); (try clear hfz31_3); (try clear hfz39_0); (try clear hfz39_1); (try clear hfz39_2)
    obtain ⟨kq, x37_20, rfl, HA, HJ20, HO_3, BK549, BK554, HB⟩ := hcut
    cases kq with
    | zero => exact absurd HA.out (by simp [laws_FnForms.j0])
    | succ kj20 =>
     have H := HA.out; clear HA
     simp only [laws_FnForms.j0] at H
     by_cases c42 : x37_20 = true
     ·subst c42
      have H1 : (some (t550 == 0 && (t551 == 0 && (t552 == 0 && (!t553))))) = some r := by rw [if_pos rfl] at H; exact H
      clear H; have H := H1; clear H1
      obtain rfl := Option.some.inj H
      have hnb43 := NB554_549.out; have hnc43 := NB549_554.out
      obtain ⟨hcz44_0, hcz44_1, hcz44_2, hcz44_3, hfz44_0, hfz44_1, hfz44_2, hfz44_3⟩ := bc4 BK554
      go_wp2
      go_ret
      exact ⟨RT, PB⟩
     ·replace c42 := Bool.eq_false_iff.mpr c42
      subst c42
      have H1 : ((impl_CountFits.f kj20 t550 t551 t552 t553 t543 t546 t547 t548).bind fun t559 => (if t559 > t552 then (laws_FnForms.j1 kj20 l0 t543 true t546 t547 t548 t550 t551 t552 t553) else (if (t553 != (t559 == t552)) = true then (laws_FnForms.j1 kj20 l0 t543 true t546 t547 t548 t550 t551 t552 t553) else (if t550 < 0 then (laws_FnForms.j1 kj20 l0 t543 true t546 t547 t548 t550 t551 t552 t553) else (if t550 > 999 then (laws_FnForms.j1 kj20 l0 t543 true t546 t547 t548 t550 t551 t552 t553) else (if t551 < 0 then (laws_FnForms.j1 kj20 l0 t543 true t546 t547 t548 t550 t551 t552 t553) else (laws_FnForms.j1 kj20 l0 t543 (decide (t551 > 999)) t546 t547 t548 t550 t551 t552 t553))))))) = some r := by rw [if_neg (show ¬ (false = true) by decide)] at H; exact H
      clear H; have H := H1; clear H1; replace H := Option.bind_eq_some_iff.mp H
      obtain ⟨t559, A450, H⟩ := H
      replace H : (if t559 > t552 then (laws_FnForms.j1 kj20 l0 t543 true t546 t547 t548 t550 t551 t552 t553) else (if (t553 != (t559 == t552)) = true then (laws_FnForms.j1 kj20 l0 t543 true t546 t547 t548 t550 t551 t552 t553) else (if t550 < 0 then (laws_FnForms.j1 kj20 l0 t543 true t546 t547 t548 t550 t551 t552 t553) else (if t550 > 999 then (laws_FnForms.j1 kj20 l0 t543 true t546 t547 t548 t550 t551 t552 t553) else (if t551 < 0 then (laws_FnForms.j1 kj20 l0 t543 true t546 t547 t548 t550 t551 t552 t553) else (laws_FnForms.j1 kj20 l0 t543 (decide (t551 > 999)) t546 t547 t548 t550 t551 t552 t553)))))) = some r := H
      have A45 := Aside0.mk A450; clear A450; have HC46 := Aside0.mk H; clear H; have hnb47 := NB554_549.out; have hnc47 := NB549_554.out
      obtain ⟨hcz48_0, hcz48_1, hcz48_2, hcz48_3, hfz48_0, hfz48_1, hfz48_2, hfz48_3⟩ := bc4 BK554
      obtain ⟨hcz49_0, hcz49_1, hcz49_2, hfz49_0, hfz49_1, hfz49_2⟩ := bc3 BK549
      go_upto_region 10 with (first | ((with_reducible refine gate_callee (f := 56) rfl ?_); refine goesL_ (some 44) rfl rfl Try.func56 KR rfl #[.agg #[.int .i64 t550, .int .i64 t551, .int .i64 t552, .bool t553], .slice Ao27 t543.length co27, .agg #[.int .i64 t546, .int .i64 t547, .int .i64 t548]] rfl AR ?_; (with_reducible refine (impl_CountFits.calls kj20 t550 t551 t552 t553 _ _ t543 t546 t547 t548 t559 _ ?side1 ?side2 A45.out).mono ?_); (case side1 => exact CR ((Kd.S_reads' HO_3.out).2.2)); (case side2 => exact (Kd.S_reads' HO_3.out).2.1); rintro e w50 ⟨rfl, hb⟩; refine ⟨_, rfl, ?_⟩; replace HO_3 := Sb HO_3 hb; replace BK549 := kf BK549 hb; replace BK554 := kf BK554 hb; replace HB := bs HB hb; (try clear hb); (try clear hb2); (try clear hk); (try clear hi)))
      (try simp only [Act.put, List.setIfInBounds_toArray, List.set_cons_zero, List.set_cons_succ])
      go_cut [77] (fun v77 wc => ∃ (kq : Nat) (x77_45 : Bool), v77 = .bool x77_45 ∧ Aside0 (laws_FnForms.j1 kq l0 t543 x77_45 t546 t547 t548 t550 t551 t552 t553 = some r) ∧ Aside0 (kq ≤ kj20) ∧ Aside0 (Kd.S k40 40 wc w.heap.size (fun _ => True) (.slice Ao27 t543.length co27) t543) ∧ Aside0 (wc.heap[gb549]? = some (.cells #[.int .i64 t546, .int .i64 t547, .int .i64 t548] 26 (0, 0))) ∧ Aside0 (wc.heap[gb554]? = some (.cells #[.int .i64 t550, .int .i64 t551, .int .i64 t552, .bool t553] 85 (0, 0))) ∧ Aside0 (Below w.heap.size w wc))
      case first =>
       have H := HC46.out; clear HC46
       by_cases c51 : t559 > t552
       ·rw [if_pos c51] at H
        have c51b0 : decide (t552 < t559) = true := decide_eq_true c51
        clear c51
        (first | rw [c51b0] | (simp only [i64_w, i32_w]; rw [c51b0]) | skip)
        have H' := Aside0.mk H
        clear H; have hnb52 := NB554_549.out; have hnc52 := NB549_554.out
        obtain ⟨hcz53_0, hcz53_1, hcz53_2, hcz53_3, hfz53_0, hfz53_1, hfz53_2, hfz53_3⟩ := bc4 BK554
        go_wp2
        go_meet
        case rel => exact ⟨_, (true), (by first | rfl | (simp; done) | (simp [*]; done)), H', ⟨by have := HJ20.out; first | omega | exact Nat.le_refl _⟩, ⟨PS HO_3⟩, ⟨PK BK549⟩, ⟨PK BK554⟩, ⟨PB⟩⟩
       ·rw [if_neg c51] at H
        have c51b0 : decide (t552 < t559) = false := decide_eq_false c51
        clear c51
        (first | rw [c51b0] | (simp only [i64_w, i32_w]; rw [c51b0]) | skip)
        by_cases c54 : (t553 != (t559 == t552)) = true
        ·rw [if_pos c54] at H
         have c54b0 : (t553 != (t559 == t552)) = true := c54
         (try (have c54b1 : decide (t553 = (t559 == t552)) = false := by simpa using c54))
         (try (have c54b2 : (t553 == (t559 == t552)) = false := by simpa using c54))
         (try (have c54b3 : ¬ (t553 = (t559 == t552)) := by simpa using c54))
         clear c54
         have H' := Aside0.mk H
         clear H; have hnb55 := NB554_549.out; have hnc55 := NB549_554.out
         obtain ⟨hcz56_0, hcz56_1, hcz56_2, hcz56_3, hfz56_0, hfz56_1, hfz56_2, hfz56_3⟩ := bc4 BK554
         go_wp2
         go_meet
         case rel => exact ⟨_, (true), (by first | rfl | (simp; done) | (simp [*]; done)), H', ⟨by have := HJ20.out; first | omega | exact Nat.le_refl _⟩, ⟨PS HO_3⟩, ⟨PK BK549⟩, ⟨PK BK554⟩, ⟨PB⟩⟩
        ·rw [if_neg c54] at H
         have c54b0 : (t553 != (t559 == t552)) = false := by simpa using c54
         (try (have c54b1 : decide (t553 = (t559 == t552)) = true := by simpa using c54))
         (try (have c54b2 : (t553 == (t559 == t552)) = true := by simpa using c54))
         clear c54
         by_cases c57 : t550 < 0
         ·rw [if_pos c57] at H
          have c57b0 : decide (t550 < 0) = true := decide_eq_true c57
          clear c57
          have H' := Aside0.mk H
          clear H; have hnb58 := NB554_549.out; have hnc58 := NB549_554.out
          obtain ⟨hcz59_0, hcz59_1, hcz59_2, hcz59_3, hfz59_0, hfz59_1, hfz59_2, hfz59_3⟩ := bc4 BK554
          go_wp2
          go_meet
          case rel => exact ⟨_, (true), (by first | rfl | (simp; done) | (simp [*]; done)), H', ⟨by have := HJ20.out; first | omega | exact Nat.le_refl _⟩, ⟨PS HO_3⟩, ⟨PK BK549⟩, ⟨PK BK554⟩, ⟨PB⟩⟩
         ·rw [if_neg c57] at H
          have c57b0 : decide (t550 < 0) = false := decide_eq_false c57
          clear c57
          by_cases c60 : t550 > 999
          ·rw [if_pos c60] at H
           have c60b0 : decide (999 < t550) = true := decide_eq_true c60
           clear c60
           have H' := Aside0.mk H
           clear H; have hnb61 := NB554_549.out; have hnc61 := NB549_554.out
           obtain ⟨hcz62_0, hcz62_1, hcz62_2, hcz62_3, hfz62_0, hfz62_1, hfz62_2, hfz62_3⟩ := bc4 BK554
           go_wp2
           go_meet
           case rel => exact ⟨_, (true), (by first | rfl | (simp; done) | (simp [*]; done)), H', ⟨by have := HJ20.out; first | omega | exact Nat.le_refl _⟩, ⟨PS HO_3⟩, ⟨PK BK549⟩, ⟨PK BK554⟩, ⟨PB⟩⟩
          ·rw [if_neg c60] at H
           have c60b0 : decide (999 < t550) = false := decide_eq_false c60
           clear c60
           by_cases c63 : t551 < 0
           ·rw [if_pos c63] at H
            have c63b0 : decide (t551 < 0) = true := decide_eq_true c63
            clear c63
            have H' := Aside0.mk H
            clear H; have hnb64 := NB554_549.out; have hnc64 := NB549_554.out
            obtain ⟨hcz65_0, hcz65_1, hcz65_2, hcz65_3, hfz65_0, hfz65_1, hfz65_2, hfz65_3⟩ := bc4 BK554
            go_wp2
            go_meet
            case rel => exact ⟨_, (true), (by first | rfl | (simp; done) | (simp [*]; done)), H', ⟨by have := HJ20.out; first | omega | exact Nat.le_refl _⟩, ⟨PS HO_3⟩, ⟨PK BK549⟩, ⟨PK BK554⟩, ⟨PB⟩⟩
           ·rw [if_neg c63] at H
            have c63b0 : decide (t551 < 0) = false := decide_eq_false c63
            clear c63
            have H' := Aside0.mk H
            clear H; have hnb66 := NB554_549.out; have hnc66 := NB549_554.out
            obtain ⟨hcz67_0, hcz67_1, hcz67_2, hcz67_3, hfz67_0, hfz67_1, hfz67_2, hfz67_3⟩ := bc4 BK554
            go_wp2
            go_meet
            case rel => exact ⟨_, (decide (t551 > 999)), (by first | rfl | (simp; done) | (simp [*]; done)), H', ⟨by have := HJ20.out; first | omega | exact Nat.le_refl _⟩, ⟨PS HO_3⟩, ⟨PK BK549⟩, ⟨PK BK554⟩, ⟨PB⟩⟩
      case rest =>
       clear HC46
       (try clear c1); (try clear p2); (try clear c3); (try clear c4); (try clear c5); (try clear c6); (try clear c8); (try clear c8b0); (try clear c8b1); (try clear c8b2); (try clear c10); (try clear c14); (try clear c17); (try clear c30); (try clear c35); (try clear c38); (try clear c42); (try clear c43); (try clear c47); (try clear c51); (try clear c51b0); (try clear c52); (try clear c54); (try clear c54b0); (try clear c54b1); (try clear c54b2); (try clear c55); (try clear c56); (try clear c57); (try clear c57b0); (try clear c58); (try clear c60); (try clear c60b0); (try clear c61); (try clear c63); (try clear c63b0); (try clear c64); (try clear c66); (try clear hcz11_0); (try clear hcz11_1); (try clear hcz11_2); (try clear hcz13_0); (try clear hcz13_1); (try clear hcz13_2); (try clear hcz18_0); (try clear hcz18_1); (try clear hcz18_2); (try clear hcz18_3); (try clear hcz24_0); (try clear hcz24_1); (try clear hcz24_2); (try clear hcz26_0); (try clear hcz26_1); (try clear hcz26_2); (try clear hcz31_0); (try clear hcz31_1); (try clear hcz31_2); (try clear hcz31_3); (try clear hcz39_0); (try clear hcz39_1); (try clear hcz39_2); (try clear hcz44_0); (try clear hcz44_1); (try clear hcz44_2); (try clear hcz44_3); (try clear hcz48_0); (try clear hcz48_1); (try clear hcz48_2); (try clear hcz48_3); (try clear hcz49_0); (try clear hcz49_1); (try clear hcz49_2); (try clear hcz53_0); (try clear hcz53_1); (try clear hcz53_2); (try clear hcz53_3); (try clear hcz56_0); (try clear hcz56_1); (try clear hcz56_2); (try clear hcz56_3); (try clear hcz59_0); (try clear hcz59_1); (try clear hcz59_2); (try clear hcz59_3); (try clear hcz62_0); (try clear hcz62_1); (try clear hcz62_2); (try clear hcz62_3); (try clear hcz65_0); (try clear hcz65_1); (try clear hcz65_2); (try clear hcz65_3); (try clear hcz67_0); (try clear hcz67_1); (try clear hcz67_2); (try clear hcz67_3); (try clear hfz11_0); (try clear hfz11_1); (try clear hfz11_2); (try clear hfz13_0); (try clear hfz13_1); (try clear hfz13_2); (try clear hfz18_0); (try clear hfz18_1); (try clear hfz18_2); (try clear hfz18_3); (try clear hfz24_0); (try clear hfz24_1); (try clear hfz24_2); (try clear hfz26_0); (try clear hfz26_1); (try clear hfz26_2); (try clear hfz31_0); (try clear hfz31_1); (try clear hfz31_2); (try clear hfz31_3); (try clear hfz39_0); (try clear hfz39_1); (try clear hfz39_2); (try clear hfz44_0); (try clear hfz44_1); (try clear hfz44_2); (try clear hfz44_3); (try clear hfz48_0); (try clear hfz48_1); (try clear hfz48_2); (try clear hfz48_3); (try clear hfz49_0); (try clear hfz49_1); (try clear hfz49_2); (try clear hfz53_0); (try clear hfz53_1); (try clear hfz53_2); (try clear hfz53_3); (try clear hfz56_0); (try clear hfz56_1); (try clear hfz56_2); (try clear hfz56_3); (try clear hfz59_0); (try clear hfz59_1); (try clear hfz59_2); (try clear hfz59_3); (try clear hfz62_0); (try clear hfz62_1); (try clear hfz62_2); (try clear hfz62_3); (try clear hfz65_0); (try clear hfz65_1); (try clear hfz65_2); (try clear hfz65_3); (try clear hfz67_0); (try clear hfz67_1); (try clear hfz67_2); (try clear hfz67_3); (try clear p2)
       obtain ⟨kq, x77_45, rfl, HA, HJ45, HO_3, BK549, BK554, HB⟩ := hcut
       cases kq with
       | zero => exact absurd HA.out (by simp [laws_FnForms.j1])
       | succ kj45 =>
        have H := HA.out; clear HA
        simp only [laws_FnForms.j1] at H
        by_cases c68 : x77_45 = true
        ·subst c68
         have H1 : (some false) = some r := by rw [if_pos rfl] at H; exact H
         clear H; have H := H1; clear H1
         cases (Option.some.inj H).trans hT_
        ·replace c68 := Bool.eq_false_iff.mpr c68
         subst c68
         have H1 : (laws_FnForms.l0 kj45 l0 t543 0 t546 t547 t548 t550 t551 t552 t553) = some r := by rw [if_neg (show ¬ (false = true) by decide)] at H; exact H
         clear H; have H := H1; clear H1
         have H' := Aside0.mk H
         clear H
         go_wp2
         go_loopg [7] kj45 (fun kq v7 w' => ∃ (x7_3 : Int), v7 = .int .i64 x7_3 ∧ Aside0 (laws_FnForms.l0 kq l0 t543 x7_3 t546 t547 t548 t550 t551 t552 t553 = some r) ∧ Aside0 (kq ≤ kj45) ∧ Aside0 (Kd.S k40 40 w' w.heap.size (fun _ => True) (.slice Ao27 t543.length co27) t543) ∧ Aside0 (w'.heap[gb549]? = some (.cells #[.int .i64 t546, .int .i64 t547, .int .i64 t548] 26 (0, 0))) ∧ Aside0 (w'.heap[gb554]? = some (.cells #[.int .i64 t550, .int .i64 t551, .int .i64 t552, .bool t553] 85 (0, 0))) ∧ Aside0 (Below w.heap.size w w'))
         case atStart => exact ⟨(0), (by first | rfl | (simp; done) | (simp [*]; done)), H', ⟨Nat.le_refl _⟩, ⟨PS HO_3⟩, ⟨PK BK549⟩, ⟨PK BK554⟩, ⟨PB⟩⟩
         case round =>
          clear H'
          (try clear c1); (try clear p2); (try clear c3); (try clear c4); (try clear c5); (try clear c6); (try clear c8); (try clear c8b0); (try clear c8b1); (try clear c8b2); (try clear c10); (try clear c14); (try clear c17); (try clear c30); (try clear c35); (try clear c38); (try clear c42); (try clear c43); (try clear c47); (try clear c51); (try clear c51b0); (try clear c52); (try clear c54); (try clear c54b0); (try clear c54b1); (try clear c54b2); (try clear c55); (try clear c56); (try clear c57); (try clear c57b0); (try clear c58); (try clear c60); (try clear c60b0); (try clear c61); (try clear c63); (try clear c63b0); (try clear c64); (try clear c66); (try clear c68); (try clear hcz11_0); (try clear hcz11_1); (try clear hcz11_2); (try clear hcz13_0); (try clear hcz13_1); (try clear hcz13_2); (try clear hcz18_0); (try clear hcz18_1); (try clear hcz18_2); (try clear hcz18_3); (try clear hcz24_0); (try clear hcz24_1); (try clear hcz24_2); (try clear hcz26_0); (try clear hcz26_1); (try clear hcz26_2); (try clear hcz31_0); (try clear hcz31_1); (try clear hcz31_2); (try clear hcz31_3); (try clear hcz39_0); (try clear hcz39_1); (try clear hcz39_2); (try clear hcz44_0); (try clear hcz44_1); (try clear hcz44_2); (try clear hcz44_3); (try clear hcz48_0); (try clear hcz48_1); (try clear hcz48_2); (try clear hcz48_3); (try clear hcz49_0); (try clear hcz49_1); (try clear hcz49_2); (try clear hcz53_0); (try clear hcz53_1); (try clear hcz53_2); (try clear hcz53_3); (try clear hcz56_0); (try clear hcz56_1); (try clear hcz56_2); (try clear hcz56_3); (try clear hcz59_0); (try clear hcz59_1); (try clear hcz59_2); (try clear hcz59_3); (try clear hcz62_0); (try clear hcz62_1); (try clear hcz62_2); (try clear hcz62_3); (try clear hcz65_0); (try clear hcz65_1); (try clear hcz65_2); (try clear hcz65_3); (try clear hcz67_0); (try clear hcz67_1); (try clear hcz67_2); (try clear hcz67_3); (try clear hfz11_0); (try clear hfz11_1); (try clear hfz11_2); (try clear hfz13_0); (try clear hfz13_1); (try clear hfz13_2); (try clear hfz18_0); (try clear hfz18_1); (try clear hfz18_2); (try clear hfz18_3); (try clear hfz24_0); (try clear hfz24_1); (try clear hfz24_2); (try clear hfz26_0); (try clear hfz26_1); (try clear hfz26_2); (try clear hfz31_0); (try clear hfz31_1); (try clear hfz31_2); (try clear hfz31_3); (try clear hfz39_0); (try clear hfz39_1); (try clear hfz39_2); (try clear hfz44_0); (try clear hfz44_1); (try clear hfz44_2); (try clear hfz44_3); (try clear hfz48_0); (try clear hfz48_1); (try clear hfz48_2); (try clear hfz48_3); (try clear hfz49_0); (try clear hfz49_1); (try clear hfz49_2); (try clear hfz53_0); (try clear hfz53_1); (try clear hfz53_2); (try clear hfz53_3); (try clear hfz56_0); (try clear hfz56_1); (try clear hfz56_2); (try clear hfz56_3); (try clear hfz59_0); (try clear hfz59_1); (try clear hfz59_2); (try clear hfz59_3); (try clear hfz62_0); (try clear hfz62_1); (try clear hfz62_2); (try clear hfz62_3); (try clear hfz65_0); (try clear hfz65_1); (try clear hfz65_2); (try clear hfz65_3); (try clear hfz67_0); (try clear hfz67_1); (try clear hfz67_2); (try clear hfz67_3); (try clear p2)
          obtain ⟨x7_3, rfl, HA, HK3, HO_3, BK549, BK554, HB⟩ := hrel
          cases gk with
          | zero => exact absurd HA.out (by simp [laws_FnForms.l0])
          | succ k3 =>
           have H := HA.out; clear HA
           simp only [laws_FnForms.l0] at H
           by_cases c69 : x7_3 < (t543.length : Int)
           ·rw [if_pos c69] at H
            have c69b0 : decide (x7_3 < (t543.length : Int)) = true := decide_eq_true c69
            clear c69
            by_cases c70 : 0 ≤ x7_3
            ·rw [if_pos c70] at H
             have c70b0 : decide (0 ≤ x7_3) = true := decide_eq_true c70
             clear c70; replace H := Option.bind_eq_some_iff.mp H
             obtain ⟨⟨t570, t571, t572⟩, A710, H⟩ := H
             replace H : ((impl_WithoutQuery.f t546 t547 t548).bind fun bt573 => (if (!(t570 == bt573.1) || (!(t571 == bt573.2.1) || (!(t572 == bt573.2.2)))) = true then (laws_FnForms.l0 k3 l0 t543 (wrap64 (x7_3 + 1)) t546 t547 t548 t550 t551 t552 t553) else (if ((rd_T40 t543 x7_3).f2.f0) > 2 then (laws_FnForms.l0 k3 l0 t543 (wrap64 (x7_3 + 1)) t546 t547 t548 t550 t551 t552 t553) else ((impl_GuessForm.f t550 t551 t552 t553 ((rd_T40 t543 x7_3).f0.f2)).bind fun bt576 => (if t553 = true then (if (bt576.2 != (decide (t552 ≥ 2))) = true then (some false) else (if bt576.2 = true then ((impl_ValueOfResource.f k3 ((rd_T40 t543 x7_3).f2.f0) ((rd_T40 t543 x7_3).f2.f1) ((rd_T40 t543 x7_3).f2.f2.f0) ((rd_T40 t543 x7_3).f2.f2.f1) ((rd_T40 t543 x7_3).f2.f2.f2)).bind fun t578 => (if bt576.1 = t578 then ((impl_FitsForm.f k3 t550 t551 t552 t553 ((rd_T40 t543 x7_3).f0.f0) ((rd_T40 t543 x7_3).f0.f1) ((rd_T40 t543 x7_3).f0.f2) ((rd_T40 t543 x7_3).f1) ((rd_T40 t543 x7_3).f2.f0) ((rd_T40 t543 x7_3).f2.f1) ((rd_T40 t543 x7_3).f2.f2.f0) ((rd_T40 t543 x7_3).f2.f2.f1) ((rd_T40 t543 x7_3).f2.f2.f2)).bind fun t579 => (if t579 = true then (laws_FnForms.l0 k3 l0 t543 (wrap64 (x7_3 + 1)) t546 t547 t548 t550 t551 t552 t553) else (some false))) else (some false))) else (laws_FnForms.l0 k3 l0 t543 (wrap64 (x7_3 + 1)) t546 t547 t548 t550 t551 t552 t553))) else (if (bt576.2 != false) = true then (some false) else (if bt576.2 = true then ((impl_ValueOfResource.f k3 ((rd_T40 t543 x7_3).f2.f0) ((rd_T40 t543 x7_3).f2.f1) ((rd_T40 t543 x7_3).f2.f2.f0) ((rd_T40 t543 x7_3).f2.f2.f1) ((rd_T40 t543 x7_3).f2.f2.f2)).bind fun t580 => (if bt576.1 = t580 then ((impl_FitsForm.f k3 t550 t551 t552 t553 ((rd_T40 t543 x7_3).f0.f0) ((rd_T40 t543 x7_3).f0.f1) ((rd_T40 t543 x7_3).f0.f2) ((rd_T40 t543 x7_3).f1) ((rd_T40 t543 x7_3).f2.f0) ((rd_T40 t543 x7_3).f2.f1) ((rd_T40 t543 x7_3).f2.f2.f0) ((rd_T40 t543 x7_3).f2.f2.f1) ((rd_T40 t543 x7_3).f2.f2.f2)).bind fun t581 => (if t581 = true then (laws_FnForms.l0 k3 l0 t543 (wrap64 (x7_3 + 1)) t546 t547 t548 t550 t551 t552 t553) else (some false))) else (some false))) else (laws_FnForms.l0 k3 l0 t543 (wrap64 (x7_3 + 1)) t546 t547 t548 t550 t551 t552 t553)))))))) = some r := H
             have A71 := Aside0.mk A710; clear A710; replace H := Option.bind_eq_some_iff.mp H
             obtain ⟨⟨t573, t574, t575⟩, A720, H⟩ := H
             replace H : (if (!(t570 == t573) || (!(t571 == t574) || (!(t572 == t575)))) = true then (laws_FnForms.l0 k3 l0 t543 (wrap64 (x7_3 + 1)) t546 t547 t548 t550 t551 t552 t553) else (if ((rd_T40 t543 x7_3).f2.f0) > 2 then (laws_FnForms.l0 k3 l0 t543 (wrap64 (x7_3 + 1)) t546 t547 t548 t550 t551 t552 t553) else ((impl_GuessForm.f t550 t551 t552 t553 ((rd_T40 t543 x7_3).f0.f2)).bind fun bt576 => (if t553 = true then (if (bt576.2 != (decide (t552 ≥ 2))) = true then (some false) else (if bt576.2 = true then ((impl_ValueOfResource.f k3 ((rd_T40 t543 x7_3).f2.f0) ((rd_T40 t543 x7_3).f2.f1) ((rd_T40 t543 x7_3).f2.f2.f0) ((rd_T40 t543 x7_3).f2.f2.f1) ((rd_T40 t543 x7_3).f2.f2.f2)).bind fun t578 => (if bt576.1 = t578 then ((impl_FitsForm.f k3 t550 t551 t552 t553 ((rd_T40 t543 x7_3).f0.f0) ((rd_T40 t543 x7_3).f0.f1) ((rd_T40 t543 x7_3).f0.f2) ((rd_T40 t543 x7_3).f1) ((rd_T40 t543 x7_3).f2.f0) ((rd_T40 t543 x7_3).f2.f1) ((rd_T40 t543 x7_3).f2.f2.f0) ((rd_T40 t543 x7_3).f2.f2.f1) ((rd_T40 t543 x7_3).f2.f2.f2)).bind fun t579 => (if t579 = true then (laws_FnForms.l0 k3 l0 t543 (wrap64 (x7_3 + 1)) t546 t547 t548 t550 t551 t552 t553) else (some false))) else (some false))) else (laws_FnForms.l0 k3 l0 t543 (wrap64 (x7_3 + 1)) t546 t547 t548 t550 t551 t552 t553))) else (if (bt576.2 != false) = true then (some false) else (if bt576.2 = true then ((impl_ValueOfResource.f k3 ((rd_T40 t543 x7_3).f2.f0) ((rd_T40 t543 x7_3).f2.f1) ((rd_T40 t543 x7_3).f2.f2.f0) ((rd_T40 t543 x7_3).f2.f2.f1) ((rd_T40 t543 x7_3).f2.f2.f2)).bind fun t580 => (if bt576.1 = t580 then ((impl_FitsForm.f k3 t550 t551 t552 t553 ((rd_T40 t543 x7_3).f0.f0) ((rd_T40 t543 x7_3).f0.f1) ((rd_T40 t543 x7_3).f0.f2) ((rd_T40 t543 x7_3).f1) ((rd_T40 t543 x7_3).f2.f0) ((rd_T40 t543 x7_3).f2.f1) ((rd_T40 t543 x7_3).f2.f2.f0) ((rd_T40 t543 x7_3).f2.f2.f1) ((rd_T40 t543 x7_3).f2.f2.f2)).bind fun t581 => (if t581 = true then (laws_FnForms.l0 k3 l0 t543 (wrap64 (x7_3 + 1)) t546 t547 t548 t550 t551 t552 t553) else (some false))) else (some false))) else (laws_FnForms.l0 k3 l0 t543 (wrap64 (x7_3 + 1)) t546 t547 t548 t550 t551 t552 t553))))))) = some r := H
             have A72 := Aside0.mk A720; clear A720
             by_cases c73 : (!(t570 == t573) || (!(t571 == t574) || (!(t572 == t575)))) = true
             ·rw [if_pos c73] at H
              have c73b0 : (!(t570 == t573) || (!(t571 == t574) || (!(t572 == t575)))) = true := c73
              clear c73
              have H' := Aside0.mk H
              clear H
              have p568 : 0 ≤ (x7_3 : Int) := od16
              have q568 : x7_3 < (t543.length : Int) := od16
              obtain ⟨ad568, A568_5, c568_5, e568, hx568_0, hx568_1, hx568_2, hx568_3, hx568_4, hx568_5, hx568_6, hx568_7, hx568_8, hl568_5, hi568_5⟩ := at_T40 (Kd.S_reads' HO_3.out).2.2 x7_3 p568 q568
              cases e568
              obtain ⟨ce568, hce568, hMe568, hcc568⟩ := Kd.S_get HO_3.out z40 x7_3 p568 (by first | exact q568 | exact od16 | (have e_ := (Kd.S_reads' HO_3.out).1; omega))
              obtain ⟨ve568_5, rfl, ge568_5⟩ := k40_openM hMe568
              have hv568_5 := hcc568 5 _ rfl
              rw [add_field _ _ 5 (by omega)] at hv568_5
              replace hv568_5 := Option.some.inj (hv568_5.symm.trans hx568_5)
              rw [hv568_5] at ge568_5
              have HL568_5 := ak (show Kd.R (Kd.int .i64) 3 _ _ _ _ ((rd_T40 t543 x7_3).f2.f1) from ge568_5); clear hv568_5 ge568_5; clear hcc568 hce568; have HR568_5 := Aside0.mk hi568_5; have HC568_5 := Aside0.mk hl568_5; clear hi568_5 hl568_5; replace p568 := eq_true p568; replace q568 := eq_true q568
              try go_wp2_with (first | ((with_reducible refine gate_dst (N := 8) rfl ?_); refine bx_ (N := 8) #[.int .i64 0, .int .i64 0, .int .i64 0, .int .i64 0, .int .i64 0, .slice none 0 0, .int .i64 0, .int .i64 0, .int .i64 0] 40 ?_; intro gb569 hg w74 hbox hb; replace HO_3 := ak (Kd.S_below (Kd.S_elderB (PS HO_3) gb569 (Nat.le_of_eq hg.symm)) hb); replace HL568_5 := Rb HL568_5 hb; replace HR568_5 := Cb HR568_5 hb; have BK569 := ak hbox; have GW569 := gy hg HB; have GE569 := gy hg HB; replace HB := bs HB hb; have NB549_569 := gm hg BK549; have NB569_549 := gn hg BK549; replace BK549 := kf BK549 hb; have NB554_569 := gm hg BK554; have NB569_554 := gn hg BK554; replace BK554 := kf BK554 hb; clear hb hbox hg; have hnb75 := NB569_549.out; have hnc75 := NB549_569.out; have hnb76 := NB569_554.out; have hnc76 := NB554_569.out; obtain ⟨_, _, _, _, _, _, _, _, _, _, _, _, _, _, _, _, _, _⟩ := bc9 BK569))
              generalize hW_ : (((((((((w74.setCell ⟨gb569, 0, none⟩ (.int .i64 ((rd_T40 t543 x7_3).f0.f0))).setCell ⟨gb569, 1, none⟩ (.int .i64 ((rd_T40 t543 x7_3).f0.f1))).setCell ⟨gb569, 2, none⟩ (.int .i64 ((rd_T40 t543 x7_3).f0.f2))).setCell ⟨gb569, 3, none⟩ (.int .i64 ((rd_T40 t543 x7_3).f1))).setCell ⟨gb569, 4, none⟩ (.int .i64 ((rd_T40 t543 x7_3).f2.f0))).setCell ⟨gb569, 5, none⟩ (.slice A568_5 ((rd_T40 t543 x7_3).f2.f1).length c568_5)).setCell ⟨gb569, 6, none⟩ (.int .i64 ((rd_T40 t543 x7_3).f2.f2.f0))).setCell ⟨gb569, 7, none⟩ (.int .i64 ((rd_T40 t543 x7_3).f2.f2.f1))).setCell ⟨gb569, 8, none⟩ (.int .i64 ((rd_T40 t543 x7_3).f2.f2.f2))) = w78
              replace HO_3 : Aside0 (Kd.S k40 40 w78 w.heap.size (fun k_ => k_ ≠ gb569) (.slice (some ad568) t543.length co27) t543) := ⟨by rw [← hW_]; exact SX (Kd.S_mono HO_3.out (fun k_ hk => (⟨hk, hk.2⟩ : _ ∧ k_ ≠ gb569))) (fun _ hk => by first | exact hk.1.2 | simp_all)⟩
              replace HL568_5 : Aside0 (Kd.R (Kd.int .i64) 3 w78 w.heap.size (fun k_ => some k_ ≠ (.slice (some ad568) t543.length co27 : Value).ownBlock) (.slice A568_5 ((rd_T40 t543 x7_3).f2.f1).length c568_5) ((rd_T40 t543 x7_3).f2.f1)) := ⟨by rw [← hW_]; exact RX (Rt HL568_5.out BK569) (fun _ hk => by first | exact hk.1.2 | simp_all)⟩
              replace BK549 := BE hW_ BK549; replace BK554 := BE hW_ BK554
              replace BK569 : Aside0 (w78.heap[gb569]? = some (.cells #[.int .i64 ((rd_T40 t543 x7_3).f0.f0), .int .i64 ((rd_T40 t543 x7_3).f0.f1), .int .i64 ((rd_T40 t543 x7_3).f0.f2), .int .i64 ((rd_T40 t543 x7_3).f1), .int .i64 ((rd_T40 t543 x7_3).f2.f0), .slice A568_5 ((rd_T40 t543 x7_3).f2.f1).length c568_5, .int .i64 ((rd_T40 t543 x7_3).f2.f2.f0), .int .i64 ((rd_T40 t543 x7_3).f2.f2.f1), .int .i64 ((rd_T40 t543 x7_3).f2.f2.f2)] 40 (0, 0))) := BP hW_ BK569
              replace HB := BL hW_ HB; (try clear hW_); replace HO_3 := ak (Kd.S_drew HO_3.out); replace HL568_5 := ak (Kd.R_drew HL568_5.out); replace BK549 := ak (blk_drew BK549.out); replace BK554 := ak (blk_drew BK554.out); replace BK569 := ak (blk_drew BK569.out); replace HB := ak (below_drew1 HB.out)
              refine start_ (n := 12) (S := fun w' => w'.cell? ⟨gb569, 0, none⟩ = some (.int .i64 ((rd_T40 t543 x7_3).f0.f0)) ∧ w'.cell? ⟨gb569, 1, none⟩ = some (.int .i64 ((rd_T40 t543 x7_3).f0.f1)) ∧ w'.cell? ⟨gb569, 2, none⟩ = some (.int .i64 ((rd_T40 t543 x7_3).f0.f2)) ∧ w'.cell? ⟨gb569, 3, none⟩ = some (.int .i64 ((rd_T40 t543 x7_3).f1)) ∧ w'.cell? ⟨gb569, 4, none⟩ = some (.int .i64 ((rd_T40 t543 x7_3).f2.f0)) ∧ w'.cell? ⟨gb569, 5, none⟩ = some (.slice A568_5 ((rd_T40 t543 x7_3).f2.f1).length c568_5) ∧ w'.cell? ⟨gb569, 6, none⟩ = some (.int .i64 ((rd_T40 t543 x7_3).f2.f2.f0)) ∧ w'.cell? ⟨gb569, 7, none⟩ = some (.int .i64 ((rd_T40 t543 x7_3).f2.f2.f1)) ∧ w'.cell? ⟨gb569, 8, none⟩ = some (.int .i64 ((rd_T40 t543 x7_3).f2.f2.f2)) ∧ w'.cell? ⟨gb549, 0, none⟩ = some (.int .i64 t546) ∧ w'.cell? ⟨gb549, 1, none⟩ = some (.int .i64 t547) ∧ w'.cell? ⟨gb549, 2, none⟩ = some (.int .i64 t548)) (ds := []) b16_12 KR rfl rfl ⟨bq16 BK569 0, bq16 BK569 1, bq16 BK569 2, bq16 BK569 3, bq16 BK569 4, bq16 BK569 5, bq16 BK569 6, bq16 BK569 7, bq16 BK569 8, bq16 BK549 0, bq16 BK549 1, bq16 BK549 2⟩ (fun hHeld => ?_); refine with_tabW laws_FnForms.tab16 laws_FnForms.bits16 (fun HT_ HW_ => ?_)
              generalize w78.drew = w79 at HO_3 HL568_5 BK549 BK554 BK569 HB hHeld ⊢
              refine pu_ (i := 0) (N := some 88) b16_11 HT_ ?_
              refine tk_ (i := 1) (N := some 89) b16_10 rfl rfl HT_ HW_ hHeld ?_
              refine take_ (i := 3) (N := some 91) (v := ?_) (a' := ?_) b16_9 rfl rfl (take_ofW HT_.out HW_.out KR) (fun _ _ _ h => h) (Or.inl ⟨by rfl, ?_⟩) hHeld ?_ ?_
              rotate_left
              ·rintro w' ⟨s0, s1, s2, s3, s4, s5, s6, s7, s8, s9, s10, s11⟩
               go_simp
               with_reducible rfl
              rotate_left
              ·simp only [Act.put, List.setIfInBounds_toArray, List.set_cons_zero, List.set_cons_succ, i64_w, i32_w]
               rfl
              refine one_ (i := 2) (N := some 90) b16_8 rfl rfl (one_of HT_.out KR) (by decide) (fun K hK => ?_)
              refine goes_ Try.func57 KR rfl #[.agg #[.int .i64 ((rd_T40 t543 x7_3).f0.f0), .int .i64 ((rd_T40 t543 x7_3).f0.f1), .int .i64 ((rd_T40 t543 x7_3).f0.f2)]] (by rfl) rfl rfl AR ?_
              with_reducible refine (impl_WithoutQuery.calls ((rd_T40 t543 x7_3).f0.f0) ((rd_T40 t543 x7_3).f0.f1) ((rd_T40 t543 x7_3).f0.f2) t570 t571 t572 _ A71.out).mono ?_
              rintro e w80 ⟨rfl, hb⟩
              refine ⟨_, rfl, ?_⟩; replace HO_3 := Sb HO_3 hb; replace HL568_5 := Rb HL568_5 hb; replace BK549 := kf BK549 hb; replace BK554 := kf BK554 hb; replace BK569 := kf BK569 hb; replace HB := bs HB hb
              (try clear hb); (try clear hb2); (try clear hk); (try clear hi)
              refine hK.out _ _ ⟨bq16 BK569 0, bq16 BK569 1, bq16 BK569 2, bq16 BK569 3, bq16 BK569 4, bq16 BK569 5, bq16 BK569 6, bq16 BK569 7, bq16 BK569 8, bq16 BK549 0, bq16 BK549 1, bq16 BK549 2⟩ (fun hHeld => ?_)
              clear hK K
              refine norm_ (a' := ?_) ?_ ?_
              rotate_left
              ·show Act.put _ (some 90) _ = _
               simp only [Act.put, List.setIfInBounds_toArray, List.set_cons_zero, List.set_cons_succ, i64_w, i32_w]
               rfl
              refine one_ (i := 4) (N := some 92) b16_7 rfl rfl (one_of HT_.out KR) (by decide) (fun K hK => ?_)
              refine goes_ Try.func57 KR rfl #[.agg #[.int .i64 t546, .int .i64 t547, .int .i64 t548]] (by rfl) rfl rfl AR ?_
              with_reducible refine (impl_WithoutQuery.calls t546 t547 t548 t573 t574 t575 _ A72.out).mono ?_
              rintro e w81 ⟨rfl, hb⟩
              refine ⟨_, rfl, ?_⟩; replace HO_3 := Sb HO_3 hb; replace HL568_5 := Rb HL568_5 hb; replace BK549 := kf BK549 hb; replace BK554 := kf BK554 hb; replace BK569 := kf BK569 hb; replace HB := bs HB hb
              (try clear hb); (try clear hb2); (try clear hk); (try clear hi)
              refine hK.out _ _ ⟨bq16 BK569 0, bq16 BK569 1, bq16 BK569 2, bq16 BK569 3, bq16 BK569 4, bq16 BK569 5, bq16 BK569 6, bq16 BK569 7, bq16 BK569 8, bq16 BK549 0, bq16 BK549 1, bq16 BK549 2⟩ (fun hHeld => ?_)
              clear hK K
              refine norm_ (a' := ?_) ?_ ?_
              rotate_left
              ·show Act.put _ (some 92) _ = _
               simp only [Act.put, List.setIfInBounds_toArray, List.set_cons_zero, List.set_cons_succ, i64_w, i32_w]
               rfl
              refine pu_ (i := 5) (N := some 93) b16_6 HT_ ?_
              refine pu_ (i := 6) (N := some 94) b16_5 HT_ ?_
              refine un_ (i := 7) (N := some 95) b16_4 HT_ ?_
              refine un_ (i := 8) (N := some 96) b16_3 HT_ ?_
              refine un_ (i := 9) (N := some 97) b16_2 HT_ ?_
              refine un_ (i := 10) (N := some 98) b16_1 HT_ ?_
              refine pu_ (i := 11) (N := some 99) b16_0 HT_ ?_
              refine done_ (done_of HT_.out KR) ?_
              try go_wp2
              go_roundg k3
              case measure => have := HJ20.out; have := HJ45.out; have := HK3.out; omega
              case rel => exact ⟨(wrap64 (x7_3 + 1)), (by first | rfl | (simp; done) | (simp [*]; done)), H', ⟨by have := HJ20.out; have := HJ45.out; have := HK3.out; omega⟩, ⟨SX HO_3.out (fun _ hk => trivial)⟩, ⟨PK BK549⟩, ⟨PK BK554⟩, ⟨PB⟩⟩
             ·rw [if_neg c73] at H
              have c73b0 : (!(t570 == t573) || (!(t571 == t574) || (!(t572 == t575)))) = false := by simpa using c73
              clear c73
              by_cases c82 : ((rd_T40 t543 x7_3).f2.f0) > 2
              ·rw [if_pos c82] at H
               have c82b0 : decide (2 < ((rd_T40 t543 x7_3).f2.f0)) = true := decide_eq_true c82
               clear c82
               have H' := Aside0.mk H
               clear H
               have p568 : 0 ≤ (x7_3 : Int) := od16
               have q568 : x7_3 < (t543.length : Int) := od16
               obtain ⟨ad568, A568_5, c568_5, e568, hx568_0, hx568_1, hx568_2, hx568_3, hx568_4, hx568_5, hx568_6, hx568_7, hx568_8, hl568_5, hi568_5⟩ := at_T40 (Kd.S_reads' HO_3.out).2.2 x7_3 p568 q568
               cases e568
               obtain ⟨ce568, hce568, hMe568, hcc568⟩ := Kd.S_get HO_3.out z40 x7_3 p568 (by first | exact q568 | exact od16 | (have e_ := (Kd.S_reads' HO_3.out).1; omega))
               obtain ⟨ve568_5, rfl, ge568_5⟩ := k40_openM hMe568
               have hv568_5 := hcc568 5 _ rfl
               rw [add_field _ _ 5 (by omega)] at hv568_5
               replace hv568_5 := Option.some.inj (hv568_5.symm.trans hx568_5)
               rw [hv568_5] at ge568_5
               have HL568_5 := ak (show Kd.R (Kd.int .i64) 3 _ _ _ _ ((rd_T40 t543 x7_3).f2.f1) from ge568_5); clear hv568_5 ge568_5; clear hcc568 hce568; have HR568_5 := Aside0.mk hi568_5; have HC568_5 := Aside0.mk hl568_5; clear hi568_5 hl568_5; replace p568 := eq_true p568; replace q568 := eq_true q568
               try go_wp2_with (first | ((with_reducible refine gate_dst (N := 8) rfl ?_); refine bx_ (N := 8) #[.int .i64 0, .int .i64 0, .int .i64 0, .int .i64 0, .int .i64 0, .slice none 0 0, .int .i64 0, .int .i64 0, .int .i64 0] 40 ?_; intro gb569 hg w83 hbox hb; replace HO_3 := ak (Kd.S_below (Kd.S_elderB (PS HO_3) gb569 (Nat.le_of_eq hg.symm)) hb); replace HL568_5 := Rb HL568_5 hb; replace HR568_5 := Cb HR568_5 hb; have BK569 := ak hbox; have GW569 := gy hg HB; have GE569 := gy hg HB; replace HB := bs HB hb; have NB549_569 := gm hg BK549; have NB569_549 := gn hg BK549; replace BK549 := kf BK549 hb; have NB554_569 := gm hg BK554; have NB569_554 := gn hg BK554; replace BK554 := kf BK554 hb; clear hb hbox hg; have hnb84 := NB569_549.out; have hnc84 := NB549_569.out; have hnb85 := NB569_554.out; have hnc85 := NB554_569.out; obtain ⟨_, _, _, _, _, _, _, _, _, _, _, _, _, _, _, _, _, _⟩ := bc9 BK569))
               generalize hW_ : (((((((((w83.setCell ⟨gb569, 0, none⟩ (.int .i64 ((rd_T40 t543 x7_3).f0.f0))).setCell ⟨gb569, 1, none⟩ (.int .i64 ((rd_T40 t543 x7_3).f0.f1))).setCell ⟨gb569, 2, none⟩ (.int .i64 ((rd_T40 t543 x7_3).f0.f2))).setCell ⟨gb569, 3, none⟩ (.int .i64 ((rd_T40 t543 x7_3).f1))).setCell ⟨gb569, 4, none⟩ (.int .i64 ((rd_T40 t543 x7_3).f2.f0))).setCell ⟨gb569, 5, none⟩ (.slice A568_5 ((rd_T40 t543 x7_3).f2.f1).length c568_5)).setCell ⟨gb569, 6, none⟩ (.int .i64 ((rd_T40 t543 x7_3).f2.f2.f0))).setCell ⟨gb569, 7, none⟩ (.int .i64 ((rd_T40 t543 x7_3).f2.f2.f1))).setCell ⟨gb569, 8, none⟩ (.int .i64 ((rd_T40 t543 x7_3).f2.f2.f2))) = w87
               replace HO_3 : Aside0 (Kd.S k40 40 w87 w.heap.size (fun k_ => k_ ≠ gb569) (.slice (some ad568) t543.length co27) t543) := ⟨by rw [← hW_]; exact SX (Kd.S_mono HO_3.out (fun k_ hk => (⟨hk, hk.2⟩ : _ ∧ k_ ≠ gb569))) (fun _ hk => by first | exact hk.1.2 | simp_all)⟩
               replace HL568_5 : Aside0 (Kd.R (Kd.int .i64) 3 w87 w.heap.size (fun k_ => some k_ ≠ (.slice (some ad568) t543.length co27 : Value).ownBlock) (.slice A568_5 ((rd_T40 t543 x7_3).f2.f1).length c568_5) ((rd_T40 t543 x7_3).f2.f1)) := ⟨by rw [← hW_]; exact RX (Rt HL568_5.out BK569) (fun _ hk => by first | exact hk.1.2 | simp_all)⟩
               replace BK549 := BE hW_ BK549; replace BK554 := BE hW_ BK554
               replace BK569 : Aside0 (w87.heap[gb569]? = some (.cells #[.int .i64 ((rd_T40 t543 x7_3).f0.f0), .int .i64 ((rd_T40 t543 x7_3).f0.f1), .int .i64 ((rd_T40 t543 x7_3).f0.f2), .int .i64 ((rd_T40 t543 x7_3).f1), .int .i64 ((rd_T40 t543 x7_3).f2.f0), .slice A568_5 ((rd_T40 t543 x7_3).f2.f1).length c568_5, .int .i64 ((rd_T40 t543 x7_3).f2.f2.f0), .int .i64 ((rd_T40 t543 x7_3).f2.f2.f1), .int .i64 ((rd_T40 t543 x7_3).f2.f2.f2)] 40 (0, 0))) := BP hW_ BK569
               replace HB := BL hW_ HB; (try clear hW_); replace HO_3 := ak (Kd.S_drew HO_3.out); replace HL568_5 := ak (Kd.R_drew HL568_5.out); replace BK549 := ak (blk_drew BK549.out); replace BK554 := ak (blk_drew BK554.out); replace BK569 := ak (blk_drew BK569.out); replace HB := ak (below_drew1 HB.out)
               refine start_ (n := 12) (S := fun w' => w'.cell? ⟨gb569, 0, none⟩ = some (.int .i64 ((rd_T40 t543 x7_3).f0.f0)) ∧ w'.cell? ⟨gb569, 1, none⟩ = some (.int .i64 ((rd_T40 t543 x7_3).f0.f1)) ∧ w'.cell? ⟨gb569, 2, none⟩ = some (.int .i64 ((rd_T40 t543 x7_3).f0.f2)) ∧ w'.cell? ⟨gb569, 3, none⟩ = some (.int .i64 ((rd_T40 t543 x7_3).f1)) ∧ w'.cell? ⟨gb569, 4, none⟩ = some (.int .i64 ((rd_T40 t543 x7_3).f2.f0)) ∧ w'.cell? ⟨gb569, 5, none⟩ = some (.slice A568_5 ((rd_T40 t543 x7_3).f2.f1).length c568_5) ∧ w'.cell? ⟨gb569, 6, none⟩ = some (.int .i64 ((rd_T40 t543 x7_3).f2.f2.f0)) ∧ w'.cell? ⟨gb569, 7, none⟩ = some (.int .i64 ((rd_T40 t543 x7_3).f2.f2.f1)) ∧ w'.cell? ⟨gb569, 8, none⟩ = some (.int .i64 ((rd_T40 t543 x7_3).f2.f2.f2)) ∧ w'.cell? ⟨gb549, 0, none⟩ = some (.int .i64 t546) ∧ w'.cell? ⟨gb549, 1, none⟩ = some (.int .i64 t547) ∧ w'.cell? ⟨gb549, 2, none⟩ = some (.int .i64 t548)) (ds := []) b16_12 KR rfl rfl ⟨bq16 BK569 0, bq16 BK569 1, bq16 BK569 2, bq16 BK569 3, bq16 BK569 4, bq16 BK569 5, bq16 BK569 6, bq16 BK569 7, bq16 BK569 8, bq16 BK549 0, bq16 BK549 1, bq16 BK549 2⟩ (fun hHeld => ?_); refine with_tabW laws_FnForms.tab16 laws_FnForms.bits16 (fun HT_ HW_ => ?_)
               generalize w87.drew = w88 at HO_3 HL568_5 BK549 BK554 BK569 HB hHeld ⊢
               refine pu_ (i := 0) (N := some 88) b16_11 HT_ ?_
               refine tk_ (i := 1) (N := some 89) b16_10 rfl rfl HT_ HW_ hHeld ?_
               refine take_ (i := 3) (N := some 91) (v := ?_) (a' := ?_) b16_9 rfl rfl (take_ofW HT_.out HW_.out KR) (fun _ _ _ h => h) (Or.inl ⟨by rfl, ?_⟩) hHeld ?_ ?_
               rotate_left
               ·rintro w' ⟨s0, s1, s2, s3, s4, s5, s6, s7, s8, s9, s10, s11⟩
                go_simp
                with_reducible rfl
               rotate_left
               ·simp only [Act.put, List.setIfInBounds_toArray, List.set_cons_zero, List.set_cons_succ, i64_w, i32_w]
                rfl
               refine one_ (i := 2) (N := some 90) b16_8 rfl rfl (one_of HT_.out KR) (by decide) (fun K hK => ?_)
               refine goes_ Try.func57 KR rfl #[.agg #[.int .i64 ((rd_T40 t543 x7_3).f0.f0), .int .i64 ((rd_T40 t543 x7_3).f0.f1), .int .i64 ((rd_T40 t543 x7_3).f0.f2)]] (by rfl) rfl rfl AR ?_
               with_reducible refine (impl_WithoutQuery.calls ((rd_T40 t543 x7_3).f0.f0) ((rd_T40 t543 x7_3).f0.f1) ((rd_T40 t543 x7_3).f0.f2) t570 t571 t572 _ A71.out).mono ?_
               rintro e w89 ⟨rfl, hb⟩
               refine ⟨_, rfl, ?_⟩; replace HO_3 := Sb HO_3 hb; replace HL568_5 := Rb HL568_5 hb; replace BK549 := kf BK549 hb; replace BK554 := kf BK554 hb; replace BK569 := kf BK569 hb; replace HB := bs HB hb
               (try clear hb); (try clear hb2); (try clear hk); (try clear hi)
               refine hK.out _ _ ⟨bq16 BK569 0, bq16 BK569 1, bq16 BK569 2, bq16 BK569 3, bq16 BK569 4, bq16 BK569 5, bq16 BK569 6, bq16 BK569 7, bq16 BK569 8, bq16 BK549 0, bq16 BK549 1, bq16 BK549 2⟩ (fun hHeld => ?_)
               clear hK K
               refine norm_ (a' := ?_) ?_ ?_
               rotate_left
               ·show Act.put _ (some 90) _ = _
                simp only [Act.put, List.setIfInBounds_toArray, List.set_cons_zero, List.set_cons_succ, i64_w, i32_w]
                rfl
               refine one_ (i := 4) (N := some 92) b16_7 rfl rfl (one_of HT_.out KR) (by decide) (fun K hK => ?_)
               refine goes_ Try.func57 KR rfl #[.agg #[.int .i64 t546, .int .i64 t547, .int .i64 t548]] (by rfl) rfl rfl AR ?_
               with_reducible refine (impl_WithoutQuery.calls t546 t547 t548 t573 t574 t575 _ A72.out).mono ?_
               rintro e w90 ⟨rfl, hb⟩
               refine ⟨_, rfl, ?_⟩; replace HO_3 := Sb HO_3 hb; replace HL568_5 := Rb HL568_5 hb; replace BK549 := kf BK549 hb; replace BK554 := kf BK554 hb; replace BK569 := kf BK569 hb; replace HB := bs HB hb
               (try clear hb); (try clear hb2); (try clear hk); (try clear hi)
               refine hK.out _ _ ⟨bq16 BK569 0, bq16 BK569 1, bq16 BK569 2, bq16 BK569 3, bq16 BK569 4, bq16 BK569 5, bq16 BK569 6, bq16 BK569 7, bq16 BK569 8, bq16 BK549 0, bq16 BK549 1, bq16 BK549 2⟩ (fun hHeld => ?_)
               clear hK K
               refine norm_ (a' := ?_) ?_ ?_
               rotate_left
               ·show Act.put _ (some 92) _ = _
                simp only [Act.put, List.setIfInBounds_toArray, List.set_cons_zero, List.set_cons_succ, i64_w, i32_w]
                rfl
               refine pu_ (i := 5) (N := some 93) b16_6 HT_ ?_
               refine pu_ (i := 6) (N := some 94) b16_5 HT_ ?_
               refine pu_ (i := 7) (N := some 95) b16_4 HT_ ?_
               refine pu_ (i := 8) (N := some 96) b16_3 HT_ ?_
               refine tk_ (i := 9) (N := some 97) b16_2 rfl rfl HT_ HW_ hHeld ?_
               refine pu_ (i := 10) (N := some 98) b16_1 HT_ ?_
               refine pu_ (i := 11) (N := some 99) b16_0 HT_ ?_
               refine done_ (done_of HT_.out KR) ?_
               try go_wp2
               go_roundg k3
               case measure => have := HJ20.out; have := HJ45.out; have := HK3.out; omega
               case rel => exact ⟨(wrap64 (x7_3 + 1)), (by first | rfl | (simp; done) | (simp [*]; done)), H', ⟨by have := HJ20.out; have := HJ45.out; have := HK3.out; omega⟩, ⟨SX HO_3.out (fun _ hk => trivial)⟩, ⟨PK BK549⟩, ⟨PK BK554⟩, ⟨PB⟩⟩
              ·rw [if_neg c82] at H
               have c82b0 : decide (2 < ((rd_T40 t543 x7_3).f2.f0)) = false := decide_eq_false c82
               clear c82; replace H := Option.bind_eq_some_iff.mp H
               obtain ⟨⟨t576, t577⟩, A910, H⟩ := H
               replace H : (if t553 = true then (if (t577 != (decide (t552 ≥ 2))) = true then (some false) else (if t577 = true then ((impl_ValueOfResource.f k3 ((rd_T40 t543 x7_3).f2.f0) ((rd_T40 t543 x7_3).f2.f1) ((rd_T40 t543 x7_3).f2.f2.f0) ((rd_T40 t543 x7_3).f2.f2.f1) ((rd_T40 t543 x7_3).f2.f2.f2)).bind fun t578 => (if t576 = t578 then ((impl_FitsForm.f k3 t550 t551 t552 t553 ((rd_T40 t543 x7_3).f0.f0) ((rd_T40 t543 x7_3).f0.f1) ((rd_T40 t543 x7_3).f0.f2) ((rd_T40 t543 x7_3).f1) ((rd_T40 t543 x7_3).f2.f0) ((rd_T40 t543 x7_3).f2.f1) ((rd_T40 t543 x7_3).f2.f2.f0) ((rd_T40 t543 x7_3).f2.f2.f1) ((rd_T40 t543 x7_3).f2.f2.f2)).bind fun t579 => (if t579 = true then (laws_FnForms.l0 k3 l0 t543 (wrap64 (x7_3 + 1)) t546 t547 t548 t550 t551 t552 t553) else (some false))) else (some false))) else (laws_FnForms.l0 k3 l0 t543 (wrap64 (x7_3 + 1)) t546 t547 t548 t550 t551 t552 t553))) else (if (t577 != false) = true then (some false) else (if t577 = true then ((impl_ValueOfResource.f k3 ((rd_T40 t543 x7_3).f2.f0) ((rd_T40 t543 x7_3).f2.f1) ((rd_T40 t543 x7_3).f2.f2.f0) ((rd_T40 t543 x7_3).f2.f2.f1) ((rd_T40 t543 x7_3).f2.f2.f2)).bind fun t580 => (if t576 = t580 then ((impl_FitsForm.f k3 t550 t551 t552 t553 ((rd_T40 t543 x7_3).f0.f0) ((rd_T40 t543 x7_3).f0.f1) ((rd_T40 t543 x7_3).f0.f2) ((rd_T40 t543 x7_3).f1) ((rd_T40 t543 x7_3).f2.f0) ((rd_T40 t543 x7_3).f2.f1) ((rd_T40 t543 x7_3).f2.f2.f0) ((rd_T40 t543 x7_3).f2.f2.f1) ((rd_T40 t543 x7_3).f2.f2.f2)).bind fun t581 => (if t581 = true then (laws_FnForms.l0 k3 l0 t543 (wrap64 (x7_3 + 1)) t546 t547 t548 t550 t551 t552 t553) else (some false))) else (some false))) else (laws_FnForms.l0 k3 l0 t543 (wrap64 (x7_3 + 1)) t546 t547 t548 t550 t551 t552 t553)))) = some r := H
               have A91 := Aside0.mk A910; clear A910
               by_cases c92 : t553 = true
               ·subst c92
                have H1 : (if (t577 != (decide (t552 ≥ 2))) = true then (some false) else (if t577 = true then ((impl_ValueOfResource.f k3 ((rd_T40 t543 x7_3).f2.f0) ((rd_T40 t543 x7_3).f2.f1) ((rd_T40 t543 x7_3).f2.f2.f0) ((rd_T40 t543 x7_3).f2.f2.f1) ((rd_T40 t543 x7_3).f2.f2.f2)).bind fun t578 => (if t576 = t578 then ((impl_FitsForm.f k3 t550 t551 t552 true ((rd_T40 t543 x7_3).f0.f0) ((rd_T40 t543 x7_3).f0.f1) ((rd_T40 t543 x7_3).f0.f2) ((rd_T40 t543 x7_3).f1) ((rd_T40 t543 x7_3).f2.f0) ((rd_T40 t543 x7_3).f2.f1) ((rd_T40 t543 x7_3).f2.f2.f0) ((rd_T40 t543 x7_3).f2.f2.f1) ((rd_T40 t543 x7_3).f2.f2.f2)).bind fun t579 => (if t579 = true then (laws_FnForms.l0 k3 l0 t543 (wrap64 (x7_3 + 1)) t546 t547 t548 t550 t551 t552 true) else (some false))) else (some false))) else (laws_FnForms.l0 k3 l0 t543 (wrap64 (x7_3 + 1)) t546 t547 t548 t550 t551 t552 true))) = some r := by rw [if_pos rfl] at H; exact H
                clear H; have H := H1; clear H1
                by_cases c93 : (t577 != (decide (t552 ≥ 2))) = true
                ·rw [if_pos c93] at H
                 have c93b0 : (t577 != (decide (t552 ≥ 2))) = true := c93
                 (try (have c93b1 : decide (t577 = (decide (t552 ≥ 2))) = false := by simpa using c93))
                 (try (have c93b2 : (t577 == (decide (t552 ≥ 2))) = false := by simpa using c93))
                 (try (have c93b3 : ¬ (t577 = (decide (t552 ≥ 2))) := by simpa using c93))
                 clear c93
                 cases (Option.some.inj H).trans hT_
                ·rw [if_neg c93] at H
                 have c93b0 : (t577 != (decide (t552 ≥ 2))) = false := by simpa using c93
                 (try (have c93b1 : decide (t577 = (decide (t552 ≥ 2))) = true := by simpa using c93))
                 (try (have c93b2 : (t577 == (decide (t552 ≥ 2))) = true := by simpa using c93))
                 clear c93
                 by_cases c107 : t577 = true
                 ·subst c107
                  have H1 : ((impl_ValueOfResource.f k3 ((rd_T40 t543 x7_3).f2.f0) ((rd_T40 t543 x7_3).f2.f1) ((rd_T40 t543 x7_3).f2.f2.f0) ((rd_T40 t543 x7_3).f2.f2.f1) ((rd_T40 t543 x7_3).f2.f2.f2)).bind fun t578 => (if t576 = t578 then ((impl_FitsForm.f k3 t550 t551 t552 true ((rd_T40 t543 x7_3).f0.f0) ((rd_T40 t543 x7_3).f0.f1) ((rd_T40 t543 x7_3).f0.f2) ((rd_T40 t543 x7_3).f1) ((rd_T40 t543 x7_3).f2.f0) ((rd_T40 t543 x7_3).f2.f1) ((rd_T40 t543 x7_3).f2.f2.f0) ((rd_T40 t543 x7_3).f2.f2.f1) ((rd_T40 t543 x7_3).f2.f2.f2)).bind fun t579 => (if t579 = true then (laws_FnForms.l0 k3 l0 t543 (wrap64 (x7_3 + 1)) t546 t547 t548 t550 t551 t552 true) else (some false))) else (some false))) = some r := by rw [if_pos rfl] at H; exact H
                  clear H; have H := H1; clear H1; replace H := Option.bind_eq_some_iff.mp H
                  obtain ⟨t578, A1080, H⟩ := H
                  replace H : (if t576 = t578 then ((impl_FitsForm.f k3 t550 t551 t552 true ((rd_T40 t543 x7_3).f0.f0) ((rd_T40 t543 x7_3).f0.f1) ((rd_T40 t543 x7_3).f0.f2) ((rd_T40 t543 x7_3).f1) ((rd_T40 t543 x7_3).f2.f0) ((rd_T40 t543 x7_3).f2.f1) ((rd_T40 t543 x7_3).f2.f2.f0) ((rd_T40 t543 x7_3).f2.f2.f1) ((rd_T40 t543 x7_3).f2.f2.f2)).bind fun t579 => (if t579 = true then (laws_FnForms.l0 k3 l0 t543 (wrap64 (x7_3 + 1)) t546 t547 t548 t550 t551 t552 true) else (some false))) else (some false)) = some r := H
                  have A108 := Aside0.mk A1080; clear A1080
                  by_cases c109 : t576 = t578
                  ·rw [if_pos c109] at H
                   have c109b0 : (t576 == t578) = true := beq_iff_eq.mpr c109
                   have c109b1 : (t576 != t578) = false := bne_eq_false_iff_eq.mpr c109
                   clear c109; replace H := Option.bind_eq_some_iff.mp H
                   obtain ⟨t579, A1100, H⟩ := H
                   replace H : (if t579 = true then (laws_FnForms.l0 k3 l0 t543 (wrap64 (x7_3 + 1)) t546 t547 t548 t550 t551 t552 true) else (some false)) = some r := H
                   have A110 := Aside0.mk A1100; clear A1100
                   by_cases c111 : t579 = true
                   ·subst c111
                    have H1 : (laws_FnForms.l0 k3 l0 t543 (wrap64 (x7_3 + 1)) t546 t547 t548 t550 t551 t552 true) = some r := by rw [if_pos rfl] at H; exact H
                    clear H; have H := H1; clear H1
                    have H' := Aside0.mk H
                    clear H
                    have p568 : 0 ≤ (x7_3 : Int) := od16
                    have q568 : x7_3 < (t543.length : Int) := od16
                    obtain ⟨ad568, A568_5, c568_5, e568, hx568_0, hx568_1, hx568_2, hx568_3, hx568_4, hx568_5, hx568_6, hx568_7, hx568_8, hl568_5, hi568_5⟩ := at_T40 (Kd.S_reads' HO_3.out).2.2 x7_3 p568 q568
                    cases e568
                    obtain ⟨ce568, hce568, hMe568, hcc568⟩ := Kd.S_get HO_3.out z40 x7_3 p568 (by first | exact q568 | exact od16 | (have e_ := (Kd.S_reads' HO_3.out).1; omega))
                    obtain ⟨ve568_5, rfl, ge568_5⟩ := k40_openM hMe568
                    have hv568_5 := hcc568 5 _ rfl
                    rw [add_field _ _ 5 (by omega)] at hv568_5
                    replace hv568_5 := Option.some.inj (hv568_5.symm.trans hx568_5)
                    rw [hv568_5] at ge568_5
                    have HL568_5 := ak (show Kd.R (Kd.int .i64) 3 _ _ _ _ ((rd_T40 t543 x7_3).f2.f1) from ge568_5); clear hv568_5 ge568_5; clear hcc568 hce568; have HR568_5 := Aside0.mk hi568_5; have HC568_5 := Aside0.mk hl568_5; clear hi568_5 hl568_5; replace p568 := eq_true p568; replace q568 := eq_true q568
                    try go_wp2_with (first | ((with_reducible refine gate_dst (N := 8) rfl ?_); refine bx_ (N := 8) #[.int .i64 0, .int .i64 0, .int .i64 0, .int .i64 0, .int .i64 0, .slice none 0 0, .int .i64 0, .int .i64 0, .int .i64 0] 40 ?_; intro gb569 hg w112 hbox hb; replace HO_3 := ak (Kd.S_below (Kd.S_elderB (PS HO_3) gb569 (Nat.le_of_eq hg.symm)) hb); replace HL568_5 := Rb HL568_5 hb; replace HR568_5 := Cb HR568_5 hb; have BK569 := ak hbox; have GW569 := gy hg HB; have GE569 := gy hg HB; replace HB := bs HB hb; have NB549_569 := gm hg BK549; have NB569_549 := gn hg BK549; replace BK549 := kf BK549 hb; have NB554_569 := gm hg BK554; have NB569_554 := gn hg BK554; replace BK554 := kf BK554 hb; clear hb hbox hg; have hnb113 := NB569_549.out; have hnc113 := NB549_569.out; have hnb114 := NB569_554.out; have hnc114 := NB554_569.out; obtain ⟨_, _, _, _, _, _, _, _, _, _, _, _, _, _, _, _, _, _⟩ := bc9 BK569))
                    generalize hW_ : (((((((((w112.setCell ⟨gb569, 0, none⟩ (.int .i64 ((rd_T40 t543 x7_3).f0.f0))).setCell ⟨gb569, 1, none⟩ (.int .i64 ((rd_T40 t543 x7_3).f0.f1))).setCell ⟨gb569, 2, none⟩ (.int .i64 ((rd_T40 t543 x7_3).f0.f2))).setCell ⟨gb569, 3, none⟩ (.int .i64 ((rd_T40 t543 x7_3).f1))).setCell ⟨gb569, 4, none⟩ (.int .i64 ((rd_T40 t543 x7_3).f2.f0))).setCell ⟨gb569, 5, none⟩ (.slice A568_5 ((rd_T40 t543 x7_3).f2.f1).length c568_5)).setCell ⟨gb569, 6, none⟩ (.int .i64 ((rd_T40 t543 x7_3).f2.f2.f0))).setCell ⟨gb569, 7, none⟩ (.int .i64 ((rd_T40 t543 x7_3).f2.f2.f1))).setCell ⟨gb569, 8, none⟩ (.int .i64 ((rd_T40 t543 x7_3).f2.f2.f2))) = w116
                    replace HO_3 : Aside0 (Kd.S k40 40 w116 w.heap.size (fun k_ => k_ ≠ gb569) (.slice (some ad568) t543.length co27) t543) := ⟨by rw [← hW_]; exact SX (Kd.S_mono HO_3.out (fun k_ hk => (⟨hk, hk.2⟩ : _ ∧ k_ ≠ gb569))) (fun _ hk => by first | exact hk.1.2 | simp_all)⟩
                    replace HL568_5 : Aside0 (Kd.R (Kd.int .i64) 3 w116 w.heap.size (fun k_ => some k_ ≠ (.slice (some ad568) t543.length co27 : Value).ownBlock) (.slice A568_5 ((rd_T40 t543 x7_3).f2.f1).length c568_5) ((rd_T40 t543 x7_3).f2.f1)) := ⟨by rw [← hW_]; exact RX (Rt HL568_5.out BK569) (fun _ hk => by first | exact hk.1.2 | simp_all)⟩
                    replace BK549 := BE hW_ BK549; replace BK554 := BE hW_ BK554
                    replace BK569 : Aside0 (w116.heap[gb569]? = some (.cells #[.int .i64 ((rd_T40 t543 x7_3).f0.f0), .int .i64 ((rd_T40 t543 x7_3).f0.f1), .int .i64 ((rd_T40 t543 x7_3).f0.f2), .int .i64 ((rd_T40 t543 x7_3).f1), .int .i64 ((rd_T40 t543 x7_3).f2.f0), .slice A568_5 ((rd_T40 t543 x7_3).f2.f1).length c568_5, .int .i64 ((rd_T40 t543 x7_3).f2.f2.f0), .int .i64 ((rd_T40 t543 x7_3).f2.f2.f1), .int .i64 ((rd_T40 t543 x7_3).f2.f2.f2)] 40 (0, 0))) := BP hW_ BK569
                    replace HB := BL hW_ HB; (try clear hW_); replace HO_3 := ak (Kd.S_drew HO_3.out); replace HL568_5 := ak (Kd.R_drew HL568_5.out); replace BK549 := ak (blk_drew BK549.out); replace BK554 := ak (blk_drew BK554.out); replace BK569 := ak (blk_drew BK569.out); replace HB := ak (below_drew1 HB.out)
                    refine start_ (n := 12) (S := fun w' => w'.cell? ⟨gb569, 0, none⟩ = some (.int .i64 ((rd_T40 t543 x7_3).f0.f0)) ∧ w'.cell? ⟨gb569, 1, none⟩ = some (.int .i64 ((rd_T40 t543 x7_3).f0.f1)) ∧ w'.cell? ⟨gb569, 2, none⟩ = some (.int .i64 ((rd_T40 t543 x7_3).f0.f2)) ∧ w'.cell? ⟨gb569, 3, none⟩ = some (.int .i64 ((rd_T40 t543 x7_3).f1)) ∧ w'.cell? ⟨gb569, 4, none⟩ = some (.int .i64 ((rd_T40 t543 x7_3).f2.f0)) ∧ w'.cell? ⟨gb569, 5, none⟩ = some (.slice A568_5 ((rd_T40 t543 x7_3).f2.f1).length c568_5) ∧ w'.cell? ⟨gb569, 6, none⟩ = some (.int .i64 ((rd_T40 t543 x7_3).f2.f2.f0)) ∧ w'.cell? ⟨gb569, 7, none⟩ = some (.int .i64 ((rd_T40 t543 x7_3).f2.f2.f1)) ∧ w'.cell? ⟨gb569, 8, none⟩ = some (.int .i64 ((rd_T40 t543 x7_3).f2.f2.f2)) ∧ w'.cell? ⟨gb549, 0, none⟩ = some (.int .i64 t546) ∧ w'.cell? ⟨gb549, 1, none⟩ = some (.int .i64 t547) ∧ w'.cell? ⟨gb549, 2, none⟩ = some (.int .i64 t548)) (ds := []) b16_12 KR rfl rfl ⟨bq16 BK569 0, bq16 BK569 1, bq16 BK569 2, bq16 BK569 3, bq16 BK569 4, bq16 BK569 5, bq16 BK569 6, bq16 BK569 7, bq16 BK569 8, bq16 BK549 0, bq16 BK549 1, bq16 BK549 2⟩ (fun hHeld => ?_); refine with_tabW laws_FnForms.tab16 laws_FnForms.bits16 (fun HT_ HW_ => ?_)
                    generalize w116.drew = w117 at HO_3 HL568_5 BK549 BK554 BK569 HB hHeld ⊢
                    refine pu_ (i := 0) (N := some 88) b16_11 HT_ ?_
                    refine tk_ (i := 1) (N := some 89) b16_10 rfl rfl HT_ HW_ hHeld ?_
                    refine take_ (i := 3) (N := some 91) (v := ?_) (a' := ?_) b16_9 rfl rfl (take_ofW HT_.out HW_.out KR) (fun _ _ _ h => h) (Or.inl ⟨by rfl, ?_⟩) hHeld ?_ ?_
                    rotate_left
                    ·rintro w' ⟨s0, s1, s2, s3, s4, s5, s6, s7, s8, s9, s10, s11⟩
                     go_simp
                     with_reducible rfl
                    rotate_left
                    ·simp only [Act.put, List.setIfInBounds_toArray, List.set_cons_zero, List.set_cons_succ, i64_w, i32_w]
                     rfl
                    refine one_ (i := 2) (N := some 90) b16_8 rfl rfl (one_of HT_.out KR) (by decide) (fun K hK => ?_)
                    refine goes_ Try.func57 KR rfl #[.agg #[.int .i64 ((rd_T40 t543 x7_3).f0.f0), .int .i64 ((rd_T40 t543 x7_3).f0.f1), .int .i64 ((rd_T40 t543 x7_3).f0.f2)]] (by rfl) rfl rfl AR ?_
                    with_reducible refine (impl_WithoutQuery.calls ((rd_T40 t543 x7_3).f0.f0) ((rd_T40 t543 x7_3).f0.f1) ((rd_T40 t543 x7_3).f0.f2) t570 t571 t572 _ A71.out).mono ?_
                    rintro e w118 ⟨rfl, hb⟩
                    refine ⟨_, rfl, ?_⟩; replace HO_3 := Sb HO_3 hb; replace HL568_5 := Rb HL568_5 hb; replace BK549 := kf BK549 hb; replace BK554 := kf BK554 hb; replace BK569 := kf BK569 hb; replace HB := bs HB hb
                    (try clear hb); (try clear hb2); (try clear hk); (try clear hi)
                    refine hK.out _ _ ⟨bq16 BK569 0, bq16 BK569 1, bq16 BK569 2, bq16 BK569 3, bq16 BK569 4, bq16 BK569 5, bq16 BK569 6, bq16 BK569 7, bq16 BK569 8, bq16 BK549 0, bq16 BK549 1, bq16 BK549 2⟩ (fun hHeld => ?_)
                    clear hK K
                    refine norm_ (a' := ?_) ?_ ?_
                    rotate_left
                    ·show Act.put _ (some 90) _ = _
                     simp only [Act.put, List.setIfInBounds_toArray, List.set_cons_zero, List.set_cons_succ, i64_w, i32_w]
                     rfl
                    refine one_ (i := 4) (N := some 92) b16_7 rfl rfl (one_of HT_.out KR) (by decide) (fun K hK => ?_)
                    refine goes_ Try.func57 KR rfl #[.agg #[.int .i64 t546, .int .i64 t547, .int .i64 t548]] (by rfl) rfl rfl AR ?_
                    with_reducible refine (impl_WithoutQuery.calls t546 t547 t548 t573 t574 t575 _ A72.out).mono ?_
                    rintro e w119 ⟨rfl, hb⟩
                    refine ⟨_, rfl, ?_⟩; replace HO_3 := Sb HO_3 hb; replace HL568_5 := Rb HL568_5 hb; replace BK549 := kf BK549 hb; replace BK554 := kf BK554 hb; replace BK569 := kf BK569 hb; replace HB := bs HB hb
                    (try clear hb); (try clear hb2); (try clear hk); (try clear hi)
                    refine hK.out _ _ ⟨bq16 BK569 0, bq16 BK569 1, bq16 BK569 2, bq16 BK569 3, bq16 BK569 4, bq16 BK569 5, bq16 BK569 6, bq16 BK569 7, bq16 BK569 8, bq16 BK549 0, bq16 BK549 1, bq16 BK549 2⟩ (fun hHeld => ?_)
                    clear hK K
                    refine norm_ (a' := ?_) ?_ ?_
                    rotate_left
                    ·show Act.put _ (some 92) _ = _
                     simp only [Act.put, List.setIfInBounds_toArray, List.set_cons_zero, List.set_cons_succ, i64_w, i32_w]
                     rfl
                    refine pu_ (i := 5) (N := some 93) b16_6 HT_ ?_
                    refine pu_ (i := 6) (N := some 94) b16_5 HT_ ?_
                    refine pu_ (i := 7) (N := some 95) b16_4 HT_ ?_
                    refine pu_ (i := 8) (N := some 96) b16_3 HT_ ?_
                    refine tk_ (i := 9) (N := some 97) b16_2 rfl rfl HT_ HW_ hHeld ?_
                    refine pu_ (i := 10) (N := some 98) b16_1 HT_ ?_
                    refine pu_ (i := 11) (N := some 99) b16_0 HT_ ?_
                    refine done_ (done_of HT_.out KR) ?_
                    have hnb120 := NB554_549.out; have hnc120 := NB549_554.out
                    obtain ⟨_, _, _, _, _, _, _, _⟩ := bc4 BK554
                    obtain ⟨_, _, _, _, _, _, _, _, _, _, _, _, _, _, _, _, _, _⟩ := bc9 BK569
                    try go_wp2_with (first | ((with_reducible refine gate_callee (f := 58) rfl ?_); refine goesL_ (some 105) rfl rfl Try.func58 KR rfl #[.agg #[.int .i64 t550, .int .i64 t551, .int .i64 t552, .bool true], .int .i64 ((rd_T40 t543 x7_3).f0.f2)] rfl AR ?_; (with_reducible refine (impl_GuessForm.calls t550 t551 t552 true ((rd_T40 t543 x7_3).f0.f2) t576 true _ A91.out).mono ?_); rintro e w123 ⟨rfl, hb⟩; refine ⟨_, rfl, ?_⟩; replace HO_3 := Sb HO_3 hb; replace HL568_5 := Rb HL568_5 hb; replace BK549 := kf BK549 hb; replace BK554 := kf BK554 hb; replace BK569 := kf BK569 hb; replace HB := bs HB hb; (try clear hb); (try clear hb2); (try clear hk); (try clear hi); obtain ⟨_, _, _, _, _, _, _, _⟩ := bc4 BK554; obtain ⟨_, _, _, _, _, _, _, _, _, _, _, _, _, _, _, _, _, _⟩ := bc9 BK569) | (go_at_call 35; (with_reducible refine (impl_ValueOfResource.calls k3 ((rd_T40 t543 x7_3).f2.f0) _ _ ((rd_T40 t543 x7_3).f2.f1) ((rd_T40 t543 x7_3).f2.f2.f0) ((rd_T40 t543 x7_3).f2.f2.f1) ((rd_T40 t543 x7_3).f2.f2.f2) t578 _ ?side1 ?side2 A108.out).mono ?_); (case side1 => exact CR (((Kd.R_reads' HL568_5.out).2.2))); (case side2 => exact HC568_5.out); rintro e w126 ⟨rfl, hb⟩; replace HO_3 := Sb HO_3 hb; replace HL568_5 := Rb HL568_5 hb; replace BK549 := kf BK549 hb; replace BK554 := kf BK554 hb; replace BK569 := kf BK569 hb; replace HB := bs HB hb; (try clear hb); (try clear hb2); (try clear hk); (try clear hi); obtain ⟨_, _, _, _, _, _, _, _⟩ := bc4 BK554; obtain ⟨_, _, _, _, _, _, _, _, _, _, _, _, _, _, _, _, _, _⟩ := bc9 BK569) | (go_at_call 59; (with_reducible refine (impl_FitsForm.calls k3 t550 t551 t552 true ((rd_T40 t543 x7_3).f0.f0) ((rd_T40 t543 x7_3).f0.f1) ((rd_T40 t543 x7_3).f0.f2) ((rd_T40 t543 x7_3).f1) ((rd_T40 t543 x7_3).f2.f0) _ _ ((rd_T40 t543 x7_3).f2.f1) ((rd_T40 t543 x7_3).f2.f2.f0) ((rd_T40 t543 x7_3).f2.f2.f1) ((rd_T40 t543 x7_3).f2.f2.f2) true _ ?side1 ?side2 A110.out).mono ?_); (case side1 => exact CR (((Kd.R_reads' HL568_5.out).2.2))); (case side2 => exact HC568_5.out); rintro e w129 ⟨rfl, hb⟩; replace HO_3 := Sb HO_3 hb; replace HL568_5 := Rb HL568_5 hb; replace BK549 := kf BK549 hb; replace BK554 := kf BK554 hb; replace BK569 := kf BK569 hb; replace HB := bs HB hb; (try clear hb); (try clear hb2); (try clear hk); (try clear hi)))
                    go_roundg k3
                    case measure => have := HJ20.out; have := HJ45.out; have := HK3.out; omega
                    case rel => exact ⟨(wrap64 (x7_3 + 1)), (by first | rfl | (simp; done) | (simp [*]; done)), H', ⟨by have := HJ20.out; have := HJ45.out; have := HK3.out; omega⟩, ⟨SX HO_3.out (fun _ hk => trivial)⟩, ⟨PK BK549⟩, ⟨PK BK554⟩, ⟨PB⟩⟩
                   ·replace c111 := Bool.eq_false_iff.mpr c111
                    subst c111
                    have H1 : (some false) = some r := by rw [if_neg (show ¬ (false = true) by decide)] at H; exact H
                    clear H; have H := H1; clear H1
                    cases (Option.some.inj H).trans hT_
                  ·rw [if_neg c109] at H
                   have c109b0 : (t576 == t578) = false := beq_eq_false_iff_ne.mpr c109
                   have c109b1 : (t576 != t578) = true := bne_iff_ne.mpr c109
                   cases (Option.some.inj H).trans hT_
                 ·replace c107 := Bool.eq_false_iff.mpr c107
                  subst c107
                  have H1 : (laws_FnForms.l0 k3 l0 t543 (wrap64 (x7_3 + 1)) t546 t547 t548 t550 t551 t552 true) = some r := by rw [if_neg (show ¬ (false = true) by decide)] at H; exact H
                  clear H; have H := H1; clear H1
                  have H' := Aside0.mk H
                  clear H
                  have p568 : 0 ≤ (x7_3 : Int) := od16
                  have q568 : x7_3 < (t543.length : Int) := od16
                  obtain ⟨ad568, A568_5, c568_5, e568, hx568_0, hx568_1, hx568_2, hx568_3, hx568_4, hx568_5, hx568_6, hx568_7, hx568_8, hl568_5, hi568_5⟩ := at_T40 (Kd.S_reads' HO_3.out).2.2 x7_3 p568 q568
                  cases e568
                  obtain ⟨ce568, hce568, hMe568, hcc568⟩ := Kd.S_get HO_3.out z40 x7_3 p568 (by first | exact q568 | exact od16 | (have e_ := (Kd.S_reads' HO_3.out).1; omega))
                  obtain ⟨ve568_5, rfl, ge568_5⟩ := k40_openM hMe568
                  have hv568_5 := hcc568 5 _ rfl
                  rw [add_field _ _ 5 (by omega)] at hv568_5
                  replace hv568_5 := Option.some.inj (hv568_5.symm.trans hx568_5)
                  rw [hv568_5] at ge568_5
                  have HL568_5 := ak (show Kd.R (Kd.int .i64) 3 _ _ _ _ ((rd_T40 t543 x7_3).f2.f1) from ge568_5); clear hv568_5 ge568_5; clear hcc568 hce568; have HR568_5 := Aside0.mk hi568_5; have HC568_5 := Aside0.mk hl568_5; clear hi568_5 hl568_5; replace p568 := eq_true p568; replace q568 := eq_true q568
                  try go_wp2_with (first | ((with_reducible refine gate_dst (N := 8) rfl ?_); refine bx_ (N := 8) #[.int .i64 0, .int .i64 0, .int .i64 0, .int .i64 0, .int .i64 0, .slice none 0 0, .int .i64 0, .int .i64 0, .int .i64 0] 40 ?_; intro gb569 hg w163 hbox hb; replace HO_3 := ak (Kd.S_below (Kd.S_elderB (PS HO_3) gb569 (Nat.le_of_eq hg.symm)) hb); replace HL568_5 := Rb HL568_5 hb; replace HR568_5 := Cb HR568_5 hb; have BK569 := ak hbox; have GW569 := gy hg HB; have GE569 := gy hg HB; replace HB := bs HB hb; have NB549_569 := gm hg BK549; have NB569_549 := gn hg BK549; replace BK549 := kf BK549 hb; have NB554_569 := gm hg BK554; have NB569_554 := gn hg BK554; replace BK554 := kf BK554 hb; clear hb hbox hg; have hnb164 := NB569_549.out; have hnc164 := NB549_569.out; have hnb165 := NB569_554.out; have hnc165 := NB554_569.out; obtain ⟨_, _, _, _, _, _, _, _, _, _, _, _, _, _, _, _, _, _⟩ := bc9 BK569))
                  generalize hW_ : (((((((((w163.setCell ⟨gb569, 0, none⟩ (.int .i64 ((rd_T40 t543 x7_3).f0.f0))).setCell ⟨gb569, 1, none⟩ (.int .i64 ((rd_T40 t543 x7_3).f0.f1))).setCell ⟨gb569, 2, none⟩ (.int .i64 ((rd_T40 t543 x7_3).f0.f2))).setCell ⟨gb569, 3, none⟩ (.int .i64 ((rd_T40 t543 x7_3).f1))).setCell ⟨gb569, 4, none⟩ (.int .i64 ((rd_T40 t543 x7_3).f2.f0))).setCell ⟨gb569, 5, none⟩ (.slice A568_5 ((rd_T40 t543 x7_3).f2.f1).length c568_5)).setCell ⟨gb569, 6, none⟩ (.int .i64 ((rd_T40 t543 x7_3).f2.f2.f0))).setCell ⟨gb569, 7, none⟩ (.int .i64 ((rd_T40 t543 x7_3).f2.f2.f1))).setCell ⟨gb569, 8, none⟩ (.int .i64 ((rd_T40 t543 x7_3).f2.f2.f2))) = w167
                  replace HO_3 : Aside0 (Kd.S k40 40 w167 w.heap.size (fun k_ => k_ ≠ gb569) (.slice (some ad568) t543.length co27) t543) := ⟨by rw [← hW_]; exact SX (Kd.S_mono HO_3.out (fun k_ hk => (⟨hk, hk.2⟩ : _ ∧ k_ ≠ gb569))) (fun _ hk => by first | exact hk.1.2 | simp_all)⟩
                  replace HL568_5 : Aside0 (Kd.R (Kd.int .i64) 3 w167 w.heap.size (fun k_ => some k_ ≠ (.slice (some ad568) t543.length co27 : Value).ownBlock) (.slice A568_5 ((rd_T40 t543 x7_3).f2.f1).length c568_5) ((rd_T40 t543 x7_3).f2.f1)) := ⟨by rw [← hW_]; exact RX (Rt HL568_5.out BK569) (fun _ hk => by first | exact hk.1.2 | simp_all)⟩
                  replace BK549 := BE hW_ BK549; replace BK554 := BE hW_ BK554
                  replace BK569 : Aside0 (w167.heap[gb569]? = some (.cells #[.int .i64 ((rd_T40 t543 x7_3).f0.f0), .int .i64 ((rd_T40 t543 x7_3).f0.f1), .int .i64 ((rd_T40 t543 x7_3).f0.f2), .int .i64 ((rd_T40 t543 x7_3).f1), .int .i64 ((rd_T40 t543 x7_3).f2.f0), .slice A568_5 ((rd_T40 t543 x7_3).f2.f1).length c568_5, .int .i64 ((rd_T40 t543 x7_3).f2.f2.f0), .int .i64 ((rd_T40 t543 x7_3).f2.f2.f1), .int .i64 ((rd_T40 t543 x7_3).f2.f2.f2)] 40 (0, 0))) := BP hW_ BK569
                  replace HB := BL hW_ HB; (try clear hW_); replace HO_3 := ak (Kd.S_drew HO_3.out); replace HL568_5 := ak (Kd.R_drew HL568_5.out); replace BK549 := ak (blk_drew BK549.out); replace BK554 := ak (blk_drew BK554.out); replace BK569 := ak (blk_drew BK569.out); replace HB := ak (below_drew1 HB.out)
                  refine start_ (n := 12) (S := fun w' => w'.cell? ⟨gb569, 0, none⟩ = some (.int .i64 ((rd_T40 t543 x7_3).f0.f0)) ∧ w'.cell? ⟨gb569, 1, none⟩ = some (.int .i64 ((rd_T40 t543 x7_3).f0.f1)) ∧ w'.cell? ⟨gb569, 2, none⟩ = some (.int .i64 ((rd_T40 t543 x7_3).f0.f2)) ∧ w'.cell? ⟨gb569, 3, none⟩ = some (.int .i64 ((rd_T40 t543 x7_3).f1)) ∧ w'.cell? ⟨gb569, 4, none⟩ = some (.int .i64 ((rd_T40 t543 x7_3).f2.f0)) ∧ w'.cell? ⟨gb569, 5, none⟩ = some (.slice A568_5 ((rd_T40 t543 x7_3).f2.f1).length c568_5) ∧ w'.cell? ⟨gb569, 6, none⟩ = some (.int .i64 ((rd_T40 t543 x7_3).f2.f2.f0)) ∧ w'.cell? ⟨gb569, 7, none⟩ = some (.int .i64 ((rd_T40 t543 x7_3).f2.f2.f1)) ∧ w'.cell? ⟨gb569, 8, none⟩ = some (.int .i64 ((rd_T40 t543 x7_3).f2.f2.f2)) ∧ w'.cell? ⟨gb549, 0, none⟩ = some (.int .i64 t546) ∧ w'.cell? ⟨gb549, 1, none⟩ = some (.int .i64 t547) ∧ w'.cell? ⟨gb549, 2, none⟩ = some (.int .i64 t548)) (ds := []) b16_12 KR rfl rfl ⟨bq16 BK569 0, bq16 BK569 1, bq16 BK569 2, bq16 BK569 3, bq16 BK569 4, bq16 BK569 5, bq16 BK569 6, bq16 BK569 7, bq16 BK569 8, bq16 BK549 0, bq16 BK549 1, bq16 BK549 2⟩ (fun hHeld => ?_); refine with_tabW laws_FnForms.tab16 laws_FnForms.bits16 (fun HT_ HW_ => ?_)
                  generalize w167.drew = w168 at HO_3 HL568_5 BK549 BK554 BK569 HB hHeld ⊢
                  refine pu_ (i := 0) (N := some 88) b16_11 HT_ ?_
                  refine tk_ (i := 1) (N := some 89) b16_10 rfl rfl HT_ HW_ hHeld ?_
                  refine take_ (i := 3) (N := some 91) (v := ?_) (a' := ?_) b16_9 rfl rfl (take_ofW HT_.out HW_.out KR) (fun _ _ _ h => h) (Or.inl ⟨by rfl, ?_⟩) hHeld ?_ ?_
                  rotate_left
                  ·rintro w' ⟨s0, s1, s2, s3, s4, s5, s6, s7, s8, s9, s10, s11⟩
                   go_simp
                   with_reducible rfl
                  rotate_left
                  ·simp only [Act.put, List.setIfInBounds_toArray, List.set_cons_zero, List.set_cons_succ, i64_w, i32_w]
                   rfl
                  refine one_ (i := 2) (N := some 90) b16_8 rfl rfl (one_of HT_.out KR) (by decide) (fun K hK => ?_)
                  refine goes_ Try.func57 KR rfl #[.agg #[.int .i64 ((rd_T40 t543 x7_3).f0.f0), .int .i64 ((rd_T40 t543 x7_3).f0.f1), .int .i64 ((rd_T40 t543 x7_3).f0.f2)]] (by rfl) rfl rfl AR ?_
                  with_reducible refine (impl_WithoutQuery.calls ((rd_T40 t543 x7_3).f0.f0) ((rd_T40 t543 x7_3).f0.f1) ((rd_T40 t543 x7_3).f0.f2) t570 t571 t572 _ A71.out).mono ?_
                  rintro e w169 ⟨rfl, hb⟩
                  refine ⟨_, rfl, ?_⟩; replace HO_3 := Sb HO_3 hb; replace HL568_5 := Rb HL568_5 hb; replace BK549 := kf BK549 hb; replace BK554 := kf BK554 hb; replace BK569 := kf BK569 hb; replace HB := bs HB hb
                  (try clear hb); (try clear hb2); (try clear hk); (try clear hi)
                  refine hK.out _ _ ⟨bq16 BK569 0, bq16 BK569 1, bq16 BK569 2, bq16 BK569 3, bq16 BK569 4, bq16 BK569 5, bq16 BK569 6, bq16 BK569 7, bq16 BK569 8, bq16 BK549 0, bq16 BK549 1, bq16 BK549 2⟩ (fun hHeld => ?_)
                  clear hK K
                  refine norm_ (a' := ?_) ?_ ?_
                  rotate_left
                  ·show Act.put _ (some 90) _ = _
                   simp only [Act.put, List.setIfInBounds_toArray, List.set_cons_zero, List.set_cons_succ, i64_w, i32_w]
                   rfl
                  refine one_ (i := 4) (N := some 92) b16_7 rfl rfl (one_of HT_.out KR) (by decide) (fun K hK => ?_)
                  refine goes_ Try.func57 KR rfl #[.agg #[.int .i64 t546, .int .i64 t547, .int .i64 t548]] (by rfl) rfl rfl AR ?_
                  with_reducible refine (impl_WithoutQuery.calls t546 t547 t548 t573 t574 t575 _ A72.out).mono ?_
                  rintro e w170 ⟨rfl, hb⟩
                  refine ⟨_, rfl, ?_⟩; replace HO_3 := Sb HO_3 hb; replace HL568_5 := Rb HL568_5 hb; replace BK549 := kf BK549 hb; replace BK554 := kf BK554 hb; replace BK569 := kf BK569 hb; replace HB := bs HB hb
                  (try clear hb); (try clear hb2); (try clear hk); (try clear hi)
                  refine hK.out _ _ ⟨bq16 BK569 0, bq16 BK569 1, bq16 BK569 2, bq16 BK569 3, bq16 BK569 4, bq16 BK569 5, bq16 BK569 6, bq16 BK569 7, bq16 BK569 8, bq16 BK549 0, bq16 BK549 1, bq16 BK549 2⟩ (fun hHeld => ?_)
                  clear hK K
                  refine norm_ (a' := ?_) ?_ ?_
                  rotate_left
                  ·show Act.put _ (some 92) _ = _
                   simp only [Act.put, List.setIfInBounds_toArray, List.set_cons_zero, List.set_cons_succ, i64_w, i32_w]
                   rfl
                  refine pu_ (i := 5) (N := some 93) b16_6 HT_ ?_
                  refine pu_ (i := 6) (N := some 94) b16_5 HT_ ?_
                  refine pu_ (i := 7) (N := some 95) b16_4 HT_ ?_
                  refine pu_ (i := 8) (N := some 96) b16_3 HT_ ?_
                  refine tk_ (i := 9) (N := some 97) b16_2 rfl rfl HT_ HW_ hHeld ?_
                  refine pu_ (i := 10) (N := some 98) b16_1 HT_ ?_
                  refine pu_ (i := 11) (N := some 99) b16_0 HT_ ?_
                  refine done_ (done_of HT_.out KR) ?_
                  have hnb171 := NB554_549.out; have hnc171 := NB549_554.out
                  obtain ⟨_, _, _, _, _, _, _, _⟩ := bc4 BK554
                  obtain ⟨_, _, _, _, _, _, _, _, _, _, _, _, _, _, _, _, _, _⟩ := bc9 BK569
                  try go_wp2_with (first | ((with_reducible refine gate_callee (f := 58) rfl ?_); refine goesL_ (some 105) rfl rfl Try.func58 KR rfl #[.agg #[.int .i64 t550, .int .i64 t551, .int .i64 t552, .bool true], .int .i64 ((rd_T40 t543 x7_3).f0.f2)] rfl AR ?_; (with_reducible refine (impl_GuessForm.calls t550 t551 t552 true ((rd_T40 t543 x7_3).f0.f2) t576 false _ A91.out).mono ?_); rintro e w174 ⟨rfl, hb⟩; refine ⟨_, rfl, ?_⟩; replace HO_3 := Sb HO_3 hb; replace HL568_5 := Rb HL568_5 hb; replace BK549 := kf BK549 hb; replace BK554 := kf BK554 hb; replace BK569 := kf BK569 hb; replace HB := bs HB hb; (try clear hb); (try clear hb2); (try clear hk); (try clear hi); obtain ⟨_, _, _, _, _, _, _, _⟩ := bc4 BK554))
                  go_roundg k3
                  case measure => have := HJ20.out; have := HJ45.out; have := HK3.out; omega
                  case rel => exact ⟨(wrap64 (x7_3 + 1)), (by first | rfl | (simp; done) | (simp [*]; done)), H', ⟨by have := HJ20.out; have := HJ45.out; have := HK3.out; omega⟩, ⟨SX HO_3.out (fun _ hk => trivial)⟩, ⟨PK BK549⟩, ⟨PK BK554⟩, ⟨PB⟩⟩
               ·replace c92 := Bool.eq_false_iff.mpr c92
                subst c92
                have H1 : (if (t577 != false) = true then (some false) else (if t577 = true then ((impl_ValueOfResource.f k3 ((rd_T40 t543 x7_3).f2.f0) ((rd_T40 t543 x7_3).f2.f1) ((rd_T40 t543 x7_3).f2.f2.f0) ((rd_T40 t543 x7_3).f2.f2.f1) ((rd_T40 t543 x7_3).f2.f2.f2)).bind fun t580 => (if t576 = t580 then ((impl_FitsForm.f k3 t550 t551 t552 false ((rd_T40 t543 x7_3).f0.f0) ((rd_T40 t543 x7_3).f0.f1) ((rd_T40 t543 x7_3).f0.f2) ((rd_T40 t543 x7_3).f1) ((rd_T40 t543 x7_3).f2.f0) ((rd_T40 t543 x7_3).f2.f1) ((rd_T40 t543 x7_3).f2.f2.f0) ((rd_T40 t543 x7_3).f2.f2.f1) ((rd_T40 t543 x7_3).f2.f2.f2)).bind fun t581 => (if t581 = true then (laws_FnForms.l0 k3 l0 t543 (wrap64 (x7_3 + 1)) t546 t547 t548 t550 t551 t552 false) else (some false))) else (some false))) else (laws_FnForms.l0 k3 l0 t543 (wrap64 (x7_3 + 1)) t546 t547 t548 t550 t551 t552 false))) = some r := by rw [if_neg (show ¬ (false = true) by decide)] at H; exact H
                clear H; have H := H1; clear H1
                by_cases c176 : (t577 != false) = true
                ·rw [if_pos c176] at H
                 have c176b0 : (t577 != false) = true := c176
                 (try (have c176b1 : decide (t577 = false) = false := by simpa using c176))
                 (try (have c176b2 : (t577 == false) = false := by simpa using c176))
                 (try (have c176b3 : ¬ (t577 = false) := by simpa using c176))
                 clear c176
                 cases (Option.some.inj H).trans hT_
                ·rw [if_neg c176] at H
                 have c176b0 : (t577 != false) = false := by simpa using c176
                 (try (have c176b1 : decide (t577 = false) = true := by simpa using c176))
                 (try (have c176b2 : (t577 == false) = true := by simpa using c176))
                 clear c176
                 by_cases c190 : t577 = true
                 ·subst c190
                  have H1 : ((impl_ValueOfResource.f k3 ((rd_T40 t543 x7_3).f2.f0) ((rd_T40 t543 x7_3).f2.f1) ((rd_T40 t543 x7_3).f2.f2.f0) ((rd_T40 t543 x7_3).f2.f2.f1) ((rd_T40 t543 x7_3).f2.f2.f2)).bind fun t580 => (if t576 = t580 then ((impl_FitsForm.f k3 t550 t551 t552 false ((rd_T40 t543 x7_3).f0.f0) ((rd_T40 t543 x7_3).f0.f1) ((rd_T40 t543 x7_3).f0.f2) ((rd_T40 t543 x7_3).f1) ((rd_T40 t543 x7_3).f2.f0) ((rd_T40 t543 x7_3).f2.f1) ((rd_T40 t543 x7_3).f2.f2.f0) ((rd_T40 t543 x7_3).f2.f2.f1) ((rd_T40 t543 x7_3).f2.f2.f2)).bind fun t581 => (if t581 = true then (laws_FnForms.l0 k3 l0 t543 (wrap64 (x7_3 + 1)) t546 t547 t548 t550 t551 t552 false) else (some false))) else (some false))) = some r := by rw [if_pos rfl] at H; exact H
                  clear H; have H := H1; clear H1; replace H := Option.bind_eq_some_iff.mp H
                  obtain ⟨t580, A1910, H⟩ := H
                  replace H : (if t576 = t580 then ((impl_FitsForm.f k3 t550 t551 t552 false ((rd_T40 t543 x7_3).f0.f0) ((rd_T40 t543 x7_3).f0.f1) ((rd_T40 t543 x7_3).f0.f2) ((rd_T40 t543 x7_3).f1) ((rd_T40 t543 x7_3).f2.f0) ((rd_T40 t543 x7_3).f2.f1) ((rd_T40 t543 x7_3).f2.f2.f0) ((rd_T40 t543 x7_3).f2.f2.f1) ((rd_T40 t543 x7_3).f2.f2.f2)).bind fun t581 => (if t581 = true then (laws_FnForms.l0 k3 l0 t543 (wrap64 (x7_3 + 1)) t546 t547 t548 t550 t551 t552 false) else (some false))) else (some false)) = some r := H
                  have A191 := Aside0.mk A1910; clear A1910
                  by_cases c192 : t576 = t580
                  ·rw [if_pos c192] at H
                   have c192b0 : (t576 == t580) = true := beq_iff_eq.mpr c192
                   have c192b1 : (t576 != t580) = false := bne_eq_false_iff_eq.mpr c192
                   clear c192; replace H := Option.bind_eq_some_iff.mp H
                   obtain ⟨t581, A1930, H⟩ := H
                   replace H : (if t581 = true then (laws_FnForms.l0 k3 l0 t543 (wrap64 (x7_3 + 1)) t546 t547 t548 t550 t551 t552 false) else (some false)) = some r := H
                   have A193 := Aside0.mk A1930; clear A1930
                   by_cases c194 : t581 = true
                   ·subst c194
                    have H1 : (laws_FnForms.l0 k3 l0 t543 (wrap64 (x7_3 + 1)) t546 t547 t548 t550 t551 t552 false) = some r := by rw [if_pos rfl] at H; exact H
                    clear H; have H := H1; clear H1
                    have H' := Aside0.mk H
                    clear H
                    have p568 : 0 ≤ (x7_3 : Int) := od16
                    have q568 : x7_3 < (t543.length : Int) := od16
                    obtain ⟨ad568, A568_5, c568_5, e568, hx568_0, hx568_1, hx568_2, hx568_3, hx568_4, hx568_5, hx568_6, hx568_7, hx568_8, hl568_5, hi568_5⟩ := at_T40 (Kd.S_reads' HO_3.out).2.2 x7_3 p568 q568
                    cases e568
                    obtain ⟨ce568, hce568, hMe568, hcc568⟩ := Kd.S_get HO_3.out z40 x7_3 p568 (by first | exact q568 | exact od16 | (have e_ := (Kd.S_reads' HO_3.out).1; omega))
                    obtain ⟨ve568_5, rfl, ge568_5⟩ := k40_openM hMe568
                    have hv568_5 := hcc568 5 _ rfl
                    rw [add_field _ _ 5 (by omega)] at hv568_5
                    replace hv568_5 := Option.some.inj (hv568_5.symm.trans hx568_5)
                    rw [hv568_5] at ge568_5
                    have HL568_5 := ak (show Kd.R (Kd.int .i64) 3 _ _ _ _ ((rd_T40 t543 x7_3).f2.f1) from ge568_5); clear hv568_5 ge568_5; clear hcc568 hce568; have HR568_5 := Aside0.mk hi568_5; have HC568_5 := Aside0.mk hl568_5; clear hi568_5 hl568_5; replace p568 := eq_true p568; replace q568 := eq_true q568
                    try go_wp2_with (first | ((with_reducible refine gate_dst (N := 8) rfl ?_); refine bx_ (N := 8) #[.int .i64 0, .int .i64 0, .int .i64 0, .int .i64 0, .int .i64 0, .slice none 0 0, .int .i64 0, .int .i64 0, .int .i64 0] 40 ?_; intro gb569 hg w195 hbox hb; replace HO_3 := ak (Kd.S_below (Kd.S_elderB (PS HO_3) gb569 (Nat.le_of_eq hg.symm)) hb); replace HL568_5 := Rb HL568_5 hb; replace HR568_5 := Cb HR568_5 hb; have BK569 := ak hbox; have GW569 := gy hg HB; have GE569 := gy hg HB; replace HB := bs HB hb; have NB549_569 := gm hg BK549; have NB569_549 := gn hg BK549; replace BK549 := kf BK549 hb; have NB554_569 := gm hg BK554; have NB569_554 := gn hg BK554; replace BK554 := kf BK554 hb; clear hb hbox hg; have hnb196 := NB569_549.out; have hnc196 := NB549_569.out; have hnb197 := NB569_554.out; have hnc197 := NB554_569.out; obtain ⟨_, _, _, _, _, _, _, _, _, _, _, _, _, _, _, _, _, _⟩ := bc9 BK569))
                    generalize hW_ : (((((((((w195.setCell ⟨gb569, 0, none⟩ (.int .i64 ((rd_T40 t543 x7_3).f0.f0))).setCell ⟨gb569, 1, none⟩ (.int .i64 ((rd_T40 t543 x7_3).f0.f1))).setCell ⟨gb569, 2, none⟩ (.int .i64 ((rd_T40 t543 x7_3).f0.f2))).setCell ⟨gb569, 3, none⟩ (.int .i64 ((rd_T40 t543 x7_3).f1))).setCell ⟨gb569, 4, none⟩ (.int .i64 ((rd_T40 t543 x7_3).f2.f0))).setCell ⟨gb569, 5, none⟩ (.slice A568_5 ((rd_T40 t543 x7_3).f2.f1).length c568_5)).setCell ⟨gb569, 6, none⟩ (.int .i64 ((rd_T40 t543 x7_3).f2.f2.f0))).setCell ⟨gb569, 7, none⟩ (.int .i64 ((rd_T40 t543 x7_3).f2.f2.f1))).setCell ⟨gb569, 8, none⟩ (.int .i64 ((rd_T40 t543 x7_3).f2.f2.f2))) = w199
                    replace HO_3 : Aside0 (Kd.S k40 40 w199 w.heap.size (fun k_ => k_ ≠ gb569) (.slice (some ad568) t543.length co27) t543) := ⟨by rw [← hW_]; exact SX (Kd.S_mono HO_3.out (fun k_ hk => (⟨hk, hk.2⟩ : _ ∧ k_ ≠ gb569))) (fun _ hk => by first | exact hk.1.2 | simp_all)⟩
                    replace HL568_5 : Aside0 (Kd.R (Kd.int .i64) 3 w199 w.heap.size (fun k_ => some k_ ≠ (.slice (some ad568) t543.length co27 : Value).ownBlock) (.slice A568_5 ((rd_T40 t543 x7_3).f2.f1).length c568_5) ((rd_T40 t543 x7_3).f2.f1)) := ⟨by rw [← hW_]; exact RX (Rt HL568_5.out BK569) (fun _ hk => by first | exact hk.1.2 | simp_all)⟩
                    replace BK549 := BE hW_ BK549; replace BK554 := BE hW_ BK554
                    replace BK569 : Aside0 (w199.heap[gb569]? = some (.cells #[.int .i64 ((rd_T40 t543 x7_3).f0.f0), .int .i64 ((rd_T40 t543 x7_3).f0.f1), .int .i64 ((rd_T40 t543 x7_3).f0.f2), .int .i64 ((rd_T40 t543 x7_3).f1), .int .i64 ((rd_T40 t543 x7_3).f2.f0), .slice A568_5 ((rd_T40 t543 x7_3).f2.f1).length c568_5, .int .i64 ((rd_T40 t543 x7_3).f2.f2.f0), .int .i64 ((rd_T40 t543 x7_3).f2.f2.f1), .int .i64 ((rd_T40 t543 x7_3).f2.f2.f2)] 40 (0, 0))) := BP hW_ BK569
                    replace HB := BL hW_ HB; (try clear hW_); replace HO_3 := ak (Kd.S_drew HO_3.out); replace HL568_5 := ak (Kd.R_drew HL568_5.out); replace BK549 := ak (blk_drew BK549.out); replace BK554 := ak (blk_drew BK554.out); replace BK569 := ak (blk_drew BK569.out); replace HB := ak (below_drew1 HB.out)
                    refine start_ (n := 12) (S := fun w' => w'.cell? ⟨gb569, 0, none⟩ = some (.int .i64 ((rd_T40 t543 x7_3).f0.f0)) ∧ w'.cell? ⟨gb569, 1, none⟩ = some (.int .i64 ((rd_T40 t543 x7_3).f0.f1)) ∧ w'.cell? ⟨gb569, 2, none⟩ = some (.int .i64 ((rd_T40 t543 x7_3).f0.f2)) ∧ w'.cell? ⟨gb569, 3, none⟩ = some (.int .i64 ((rd_T40 t543 x7_3).f1)) ∧ w'.cell? ⟨gb569, 4, none⟩ = some (.int .i64 ((rd_T40 t543 x7_3).f2.f0)) ∧ w'.cell? ⟨gb569, 5, none⟩ = some (.slice A568_5 ((rd_T40 t543 x7_3).f2.f1).length c568_5) ∧ w'.cell? ⟨gb569, 6, none⟩ = some (.int .i64 ((rd_T40 t543 x7_3).f2.f2.f0)) ∧ w'.cell? ⟨gb569, 7, none⟩ = some (.int .i64 ((rd_T40 t543 x7_3).f2.f2.f1)) ∧ w'.cell? ⟨gb569, 8, none⟩ = some (.int .i64 ((rd_T40 t543 x7_3).f2.f2.f2)) ∧ w'.cell? ⟨gb549, 0, none⟩ = some (.int .i64 t546) ∧ w'.cell? ⟨gb549, 1, none⟩ = some (.int .i64 t547) ∧ w'.cell? ⟨gb549, 2, none⟩ = some (.int .i64 t548)) (ds := []) b16_12 KR rfl rfl ⟨bq16 BK569 0, bq16 BK569 1, bq16 BK569 2, bq16 BK569 3, bq16 BK569 4, bq16 BK569 5, bq16 BK569 6, bq16 BK569 7, bq16 BK569 8, bq16 BK549 0, bq16 BK549 1, bq16 BK549 2⟩ (fun hHeld => ?_); refine with_tabW laws_FnForms.tab16 laws_FnForms.bits16 (fun HT_ HW_ => ?_)
                    generalize w199.drew = w200 at HO_3 HL568_5 BK549 BK554 BK569 HB hHeld ⊢
                    refine pu_ (i := 0) (N := some 88) b16_11 HT_ ?_
                    refine tk_ (i := 1) (N := some 89) b16_10 rfl rfl HT_ HW_ hHeld ?_
                    refine take_ (i := 3) (N := some 91) (v := ?_) (a' := ?_) b16_9 rfl rfl (take_ofW HT_.out HW_.out KR) (fun _ _ _ h => h) (Or.inl ⟨by rfl, ?_⟩) hHeld ?_ ?_
                    rotate_left
                    ·rintro w' ⟨s0, s1, s2, s3, s4, s5, s6, s7, s8, s9, s10, s11⟩
                     go_simp
                     with_reducible rfl
                    rotate_left
                    ·simp only [Act.put, List.setIfInBounds_toArray, List.set_cons_zero, List.set_cons_succ, i64_w, i32_w]
                     rfl
                    refine one_ (i := 2) (N := some 90) b16_8 rfl rfl (one_of HT_.out KR) (by decide) (fun K hK => ?_)
                    refine goes_ Try.func57 KR rfl #[.agg #[.int .i64 ((rd_T40 t543 x7_3).f0.f0), .int .i64 ((rd_T40 t543 x7_3).f0.f1), .int .i64 ((rd_T40 t543 x7_3).f0.f2)]] (by rfl) rfl rfl AR ?_
                    with_reducible refine (impl_WithoutQuery.calls ((rd_T40 t543 x7_3).f0.f0) ((rd_T40 t543 x7_3).f0.f1) ((rd_T40 t543 x7_3).f0.f2) t570 t571 t572 _ A71.out).mono ?_
                    rintro e w201 ⟨rfl, hb⟩
                    refine ⟨_, rfl, ?_⟩; replace HO_3 := Sb HO_3 hb; replace HL568_5 := Rb HL568_5 hb; replace BK549 := kf BK549 hb; replace BK554 := kf BK554 hb; replace BK569 := kf BK569 hb; replace HB := bs HB hb
                    (try clear hb); (try clear hb2); (try clear hk); (try clear hi)
                    refine hK.out _ _ ⟨bq16 BK569 0, bq16 BK569 1, bq16 BK569 2, bq16 BK569 3, bq16 BK569 4, bq16 BK569 5, bq16 BK569 6, bq16 BK569 7, bq16 BK569 8, bq16 BK549 0, bq16 BK549 1, bq16 BK549 2⟩ (fun hHeld => ?_)
                    clear hK K
                    refine norm_ (a' := ?_) ?_ ?_
                    rotate_left
                    ·show Act.put _ (some 90) _ = _
                     simp only [Act.put, List.setIfInBounds_toArray, List.set_cons_zero, List.set_cons_succ, i64_w, i32_w]
                     rfl
                    refine one_ (i := 4) (N := some 92) b16_7 rfl rfl (one_of HT_.out KR) (by decide) (fun K hK => ?_)
                    refine goes_ Try.func57 KR rfl #[.agg #[.int .i64 t546, .int .i64 t547, .int .i64 t548]] (by rfl) rfl rfl AR ?_
                    with_reducible refine (impl_WithoutQuery.calls t546 t547 t548 t573 t574 t575 _ A72.out).mono ?_
                    rintro e w202 ⟨rfl, hb⟩
                    refine ⟨_, rfl, ?_⟩; replace HO_3 := Sb HO_3 hb; replace HL568_5 := Rb HL568_5 hb; replace BK549 := kf BK549 hb; replace BK554 := kf BK554 hb; replace BK569 := kf BK569 hb; replace HB := bs HB hb
                    (try clear hb); (try clear hb2); (try clear hk); (try clear hi)
                    refine hK.out _ _ ⟨bq16 BK569 0, bq16 BK569 1, bq16 BK569 2, bq16 BK569 3, bq16 BK569 4, bq16 BK569 5, bq16 BK569 6, bq16 BK569 7, bq16 BK569 8, bq16 BK549 0, bq16 BK549 1, bq16 BK549 2⟩ (fun hHeld => ?_)
                    clear hK K
                    refine norm_ (a' := ?_) ?_ ?_
                    rotate_left
                    ·show Act.put _ (some 92) _ = _
                     simp only [Act.put, List.setIfInBounds_toArray, List.set_cons_zero, List.set_cons_succ, i64_w, i32_w]
                     rfl
                    refine pu_ (i := 5) (N := some 93) b16_6 HT_ ?_
                    refine pu_ (i := 6) (N := some 94) b16_5 HT_ ?_
                    refine pu_ (i := 7) (N := some 95) b16_4 HT_ ?_
                    refine pu_ (i := 8) (N := some 96) b16_3 HT_ ?_
                    refine tk_ (i := 9) (N := some 97) b16_2 rfl rfl HT_ HW_ hHeld ?_
                    refine pu_ (i := 10) (N := some 98) b16_1 HT_ ?_
                    refine pu_ (i := 11) (N := some 99) b16_0 HT_ ?_
                    refine done_ (done_of HT_.out KR) ?_
                    have hnb203 := NB554_549.out; have hnc203 := NB549_554.out
                    obtain ⟨_, _, _, _, _, _, _, _⟩ := bc4 BK554
                    obtain ⟨_, _, _, _, _, _, _, _, _, _, _, _, _, _, _, _, _, _⟩ := bc9 BK569
                    try go_wp2_with (first | ((with_reducible refine gate_callee (f := 58) rfl ?_); refine goesL_ (some 105) rfl rfl Try.func58 KR rfl #[.agg #[.int .i64 t550, .int .i64 t551, .int .i64 t552, .bool false], .int .i64 ((rd_T40 t543 x7_3).f0.f2)] rfl AR ?_; (with_reducible refine (impl_GuessForm.calls t550 t551 t552 false ((rd_T40 t543 x7_3).f0.f2) t576 true _ A91.out).mono ?_); rintro e w206 ⟨rfl, hb⟩; refine ⟨_, rfl, ?_⟩; replace HO_3 := Sb HO_3 hb; replace HL568_5 := Rb HL568_5 hb; replace BK549 := kf BK549 hb; replace BK554 := kf BK554 hb; replace BK569 := kf BK569 hb; replace HB := bs HB hb; (try clear hb); (try clear hb2); (try clear hk); (try clear hi); obtain ⟨_, _, _, _, _, _, _, _⟩ := bc4 BK554; obtain ⟨_, _, _, _, _, _, _, _, _, _, _, _, _, _, _, _, _, _⟩ := bc9 BK569) | (go_at_call 35; (with_reducible refine (impl_ValueOfResource.calls k3 ((rd_T40 t543 x7_3).f2.f0) _ _ ((rd_T40 t543 x7_3).f2.f1) ((rd_T40 t543 x7_3).f2.f2.f0) ((rd_T40 t543 x7_3).f2.f2.f1) ((rd_T40 t543 x7_3).f2.f2.f2) t580 _ ?side1 ?side2 A191.out).mono ?_); (case side1 => exact CR (((Kd.R_reads' HL568_5.out).2.2))); (case side2 => exact HC568_5.out); rintro e w209 ⟨rfl, hb⟩; replace HO_3 := Sb HO_3 hb; replace HL568_5 := Rb HL568_5 hb; replace BK549 := kf BK549 hb; replace BK554 := kf BK554 hb; replace BK569 := kf BK569 hb; replace HB := bs HB hb; (try clear hb); (try clear hb2); (try clear hk); (try clear hi); obtain ⟨_, _, _, _, _, _, _, _⟩ := bc4 BK554; obtain ⟨_, _, _, _, _, _, _, _, _, _, _, _, _, _, _, _, _, _⟩ := bc9 BK569) | (go_at_call 59; (with_reducible refine (impl_FitsForm.calls k3 t550 t551 t552 false ((rd_T40 t543 x7_3).f0.f0) ((rd_T40 t543 x7_3).f0.f1) ((rd_T40 t543 x7_3).f0.f2) ((rd_T40 t543 x7_3).f1) ((rd_T40 t543 x7_3).f2.f0) _ _ ((rd_T40 t543 x7_3).f2.f1) ((rd_T40 t543 x7_3).f2.f2.f0) ((rd_T40 t543 x7_3).f2.f2.f1) ((rd_T40 t543 x7_3).f2.f2.f2) true _ ?side1 ?side2 A193.out).mono ?_); (case side1 => exact CR (((Kd.R_reads' HL568_5.out).2.2))); (case side2 => exact HC568_5.out); rintro e w212 ⟨rfl, hb⟩; replace HO_3 := Sb HO_3 hb; replace HL568_5 := Rb HL568_5 hb; replace BK549 := kf BK549 hb; replace BK554 := kf BK554 hb; replace BK569 := kf BK569 hb; replace HB := bs HB hb; (try clear hb); (try clear hb2); (try clear hk); (try clear hi)))
                    go_roundg k3
                    case measure => have := HJ20.out; have := HJ45.out; have := HK3.out; omega
                    case rel => exact ⟨(wrap64 (x7_3 + 1)), (by first | rfl | (simp; done) | (simp [*]; done)), H', ⟨by have := HJ20.out; have := HJ45.out; have := HK3.out; omega⟩, ⟨SX HO_3.out (fun _ hk => trivial)⟩, ⟨PK BK549⟩, ⟨PK BK554⟩, ⟨PB⟩⟩
                   ·replace c194 := Bool.eq_false_iff.mpr c194
                    subst c194
                    have H1 : (some false) = some r := by rw [if_neg (show ¬ (false = true) by decide)] at H; exact H
                    clear H; have H := H1; clear H1
                    cases (Option.some.inj H).trans hT_
                  ·rw [if_neg c192] at H
                   have c192b0 : (t576 == t580) = false := beq_eq_false_iff_ne.mpr c192
                   have c192b1 : (t576 != t580) = true := bne_iff_ne.mpr c192
                   cases (Option.some.inj H).trans hT_
                 ·replace c190 := Bool.eq_false_iff.mpr c190
                  subst c190
                  have H1 : (laws_FnForms.l0 k3 l0 t543 (wrap64 (x7_3 + 1)) t546 t547 t548 t550 t551 t552 false) = some r := by rw [if_neg (show ¬ (false = true) by decide)] at H; exact H
                  clear H; have H := H1; clear H1
                  have H' := Aside0.mk H
                  clear H
                  have p568 : 0 ≤ (x7_3 : Int) := od16
                  have q568 : x7_3 < (t543.length : Int) := od16
                  obtain ⟨ad568, A568_5, c568_5, e568, hx568_0, hx568_1, hx568_2, hx568_3, hx568_4, hx568_5, hx568_6, hx568_7, hx568_8, hl568_5, hi568_5⟩ := at_T40 (Kd.S_reads' HO_3.out).2.2 x7_3 p568 q568
                  cases e568
                  obtain ⟨ce568, hce568, hMe568, hcc568⟩ := Kd.S_get HO_3.out z40 x7_3 p568 (by first | exact q568 | exact od16 | (have e_ := (Kd.S_reads' HO_3.out).1; omega))
                  obtain ⟨ve568_5, rfl, ge568_5⟩ := k40_openM hMe568
                  have hv568_5 := hcc568 5 _ rfl
                  rw [add_field _ _ 5 (by omega)] at hv568_5
                  replace hv568_5 := Option.some.inj (hv568_5.symm.trans hx568_5)
                  rw [hv568_5] at ge568_5
                  have HL568_5 := ak (show Kd.R (Kd.int .i64) 3 _ _ _ _ ((rd_T40 t543 x7_3).f2.f1) from ge568_5); clear hv568_5 ge568_5; clear hcc568 hce568; have HR568_5 := Aside0.mk hi568_5; have HC568_5 := Aside0.mk hl568_5; clear hi568_5 hl568_5; replace p568 := eq_true p568; replace q568 := eq_true q568
                  try go_wp2_with (first | ((with_reducible refine gate_dst (N := 8) rfl ?_); refine bx_ (N := 8) #[.int .i64 0, .int .i64 0, .int .i64 0, .int .i64 0, .int .i64 0, .slice none 0 0, .int .i64 0, .int .i64 0, .int .i64 0] 40 ?_; intro gb569 hg w246 hbox hb; replace HO_3 := ak (Kd.S_below (Kd.S_elderB (PS HO_3) gb569 (Nat.le_of_eq hg.symm)) hb); replace HL568_5 := Rb HL568_5 hb; replace HR568_5 := Cb HR568_5 hb; have BK569 := ak hbox; have GW569 := gy hg HB; have GE569 := gy hg HB; replace HB := bs HB hb; have NB549_569 := gm hg BK549; have NB569_549 := gn hg BK549; replace BK549 := kf BK549 hb; have NB554_569 := gm hg BK554; have NB569_554 := gn hg BK554; replace BK554 := kf BK554 hb; clear hb hbox hg; have hnb247 := NB569_549.out; have hnc247 := NB549_569.out; have hnb248 := NB569_554.out; have hnc248 := NB554_569.out; obtain ⟨_, _, _, _, _, _, _, _, _, _, _, _, _, _, _, _, _, _⟩ := bc9 BK569))
                  generalize hW_ : (((((((((w246.setCell ⟨gb569, 0, none⟩ (.int .i64 ((rd_T40 t543 x7_3).f0.f0))).setCell ⟨gb569, 1, none⟩ (.int .i64 ((rd_T40 t543 x7_3).f0.f1))).setCell ⟨gb569, 2, none⟩ (.int .i64 ((rd_T40 t543 x7_3).f0.f2))).setCell ⟨gb569, 3, none⟩ (.int .i64 ((rd_T40 t543 x7_3).f1))).setCell ⟨gb569, 4, none⟩ (.int .i64 ((rd_T40 t543 x7_3).f2.f0))).setCell ⟨gb569, 5, none⟩ (.slice A568_5 ((rd_T40 t543 x7_3).f2.f1).length c568_5)).setCell ⟨gb569, 6, none⟩ (.int .i64 ((rd_T40 t543 x7_3).f2.f2.f0))).setCell ⟨gb569, 7, none⟩ (.int .i64 ((rd_T40 t543 x7_3).f2.f2.f1))).setCell ⟨gb569, 8, none⟩ (.int .i64 ((rd_T40 t543 x7_3).f2.f2.f2))) = w250
                  replace HO_3 : Aside0 (Kd.S k40 40 w250 w.heap.size (fun k_ => k_ ≠ gb569) (.slice (some ad568) t543.length co27) t543) := ⟨by rw [← hW_]; exact SX (Kd.S_mono HO_3.out (fun k_ hk => (⟨hk, hk.2⟩ : _ ∧ k_ ≠ gb569))) (fun _ hk => by first | exact hk.1.2 | simp_all)⟩
                  replace HL568_5 : Aside0 (Kd.R (Kd.int .i64) 3 w250 w.heap.size (fun k_ => some k_ ≠ (.slice (some ad568) t543.length co27 : Value).ownBlock) (.slice A568_5 ((rd_T40 t543 x7_3).f2.f1).length c568_5) ((rd_T40 t543 x7_3).f2.f1)) := ⟨by rw [← hW_]; exact RX (Rt HL568_5.out BK569) (fun _ hk => by first | exact hk.1.2 | simp_all)⟩
                  replace BK549 := BE hW_ BK549; replace BK554 := BE hW_ BK554
                  replace BK569 : Aside0 (w250.heap[gb569]? = some (.cells #[.int .i64 ((rd_T40 t543 x7_3).f0.f0), .int .i64 ((rd_T40 t543 x7_3).f0.f1), .int .i64 ((rd_T40 t543 x7_3).f0.f2), .int .i64 ((rd_T40 t543 x7_3).f1), .int .i64 ((rd_T40 t543 x7_3).f2.f0), .slice A568_5 ((rd_T40 t543 x7_3).f2.f1).length c568_5, .int .i64 ((rd_T40 t543 x7_3).f2.f2.f0), .int .i64 ((rd_T40 t543 x7_3).f2.f2.f1), .int .i64 ((rd_T40 t543 x7_3).f2.f2.f2)] 40 (0, 0))) := BP hW_ BK569
                  replace HB := BL hW_ HB; (try clear hW_); replace HO_3 := ak (Kd.S_drew HO_3.out); replace HL568_5 := ak (Kd.R_drew HL568_5.out); replace BK549 := ak (blk_drew BK549.out); replace BK554 := ak (blk_drew BK554.out); replace BK569 := ak (blk_drew BK569.out); replace HB := ak (below_drew1 HB.out)
                  refine start_ (n := 12) (S := fun w' => w'.cell? ⟨gb569, 0, none⟩ = some (.int .i64 ((rd_T40 t543 x7_3).f0.f0)) ∧ w'.cell? ⟨gb569, 1, none⟩ = some (.int .i64 ((rd_T40 t543 x7_3).f0.f1)) ∧ w'.cell? ⟨gb569, 2, none⟩ = some (.int .i64 ((rd_T40 t543 x7_3).f0.f2)) ∧ w'.cell? ⟨gb569, 3, none⟩ = some (.int .i64 ((rd_T40 t543 x7_3).f1)) ∧ w'.cell? ⟨gb569, 4, none⟩ = some (.int .i64 ((rd_T40 t543 x7_3).f2.f0)) ∧ w'.cell? ⟨gb569, 5, none⟩ = some (.slice A568_5 ((rd_T40 t543 x7_3).f2.f1).length c568_5) ∧ w'.cell? ⟨gb569, 6, none⟩ = some (.int .i64 ((rd_T40 t543 x7_3).f2.f2.f0)) ∧ w'.cell? ⟨gb569, 7, none⟩ = some (.int .i64 ((rd_T40 t543 x7_3).f2.f2.f1)) ∧ w'.cell? ⟨gb569, 8, none⟩ = some (.int .i64 ((rd_T40 t543 x7_3).f2.f2.f2)) ∧ w'.cell? ⟨gb549, 0, none⟩ = some (.int .i64 t546) ∧ w'.cell? ⟨gb549, 1, none⟩ = some (.int .i64 t547) ∧ w'.cell? ⟨gb549, 2, none⟩ = some (.int .i64 t548)) (ds := []) b16_12 KR rfl rfl ⟨bq16 BK569 0, bq16 BK569 1, bq16 BK569 2, bq16 BK569 3, bq16 BK569 4, bq16 BK569 5, bq16 BK569 6, bq16 BK569 7, bq16 BK569 8, bq16 BK549 0, bq16 BK549 1, bq16 BK549 2⟩ (fun hHeld => ?_); refine with_tabW laws_FnForms.tab16 laws_FnForms.bits16 (fun HT_ HW_ => ?_)
                  generalize w250.drew = w251 at HO_3 HL568_5 BK549 BK554 BK569 HB hHeld ⊢
                  refine pu_ (i := 0) (N := some 88) b16_11 HT_ ?_
                  refine tk_ (i := 1) (N := some 89) b16_10 rfl rfl HT_ HW_ hHeld ?_
                  refine take_ (i := 3) (N := some 91) (v := ?_) (a' := ?_) b16_9 rfl rfl (take_ofW HT_.out HW_.out KR) (fun _ _ _ h => h) (Or.inl ⟨by rfl, ?_⟩) hHeld ?_ ?_
                  rotate_left
                  ·rintro w' ⟨s0, s1, s2, s3, s4, s5, s6, s7, s8, s9, s10, s11⟩
                   go_simp
                   with_reducible rfl
                  rotate_left
                  ·simp only [Act.put, List.setIfInBounds_toArray, List.set_cons_zero, List.set_cons_succ, i64_w, i32_w]
                   rfl
                  refine one_ (i := 2) (N := some 90) b16_8 rfl rfl (one_of HT_.out KR) (by decide) (fun K hK => ?_)
                  refine goes_ Try.func57 KR rfl #[.agg #[.int .i64 ((rd_T40 t543 x7_3).f0.f0), .int .i64 ((rd_T40 t543 x7_3).f0.f1), .int .i64 ((rd_T40 t543 x7_3).f0.f2)]] (by rfl) rfl rfl AR ?_
                  with_reducible refine (impl_WithoutQuery.calls ((rd_T40 t543 x7_3).f0.f0) ((rd_T40 t543 x7_3).f0.f1) ((rd_T40 t543 x7_3).f0.f2) t570 t571 t572 _ A71.out).mono ?_
                  rintro e w252 ⟨rfl, hb⟩
                  refine ⟨_, rfl, ?_⟩; replace HO_3 := Sb HO_3 hb; replace HL568_5 := Rb HL568_5 hb; replace BK549 := kf BK549 hb; replace BK554 := kf BK554 hb; replace BK569 := kf BK569 hb; replace HB := bs HB hb
                  (try clear hb); (try clear hb2); (try clear hk); (try clear hi)
                  refine hK.out _ _ ⟨bq16 BK569 0, bq16 BK569 1, bq16 BK569 2, bq16 BK569 3, bq16 BK569 4, bq16 BK569 5, bq16 BK569 6, bq16 BK569 7, bq16 BK569 8, bq16 BK549 0, bq16 BK549 1, bq16 BK549 2⟩ (fun hHeld => ?_)
                  clear hK K
                  refine norm_ (a' := ?_) ?_ ?_
                  rotate_left
                  ·show Act.put _ (some 90) _ = _
                   simp only [Act.put, List.setIfInBounds_toArray, List.set_cons_zero, List.set_cons_succ, i64_w, i32_w]
                   rfl
                  refine one_ (i := 4) (N := some 92) b16_7 rfl rfl (one_of HT_.out KR) (by decide) (fun K hK => ?_)
                  refine goes_ Try.func57 KR rfl #[.agg #[.int .i64 t546, .int .i64 t547, .int .i64 t548]] (by rfl) rfl rfl AR ?_
                  with_reducible refine (impl_WithoutQuery.calls t546 t547 t548 t573 t574 t575 _ A72.out).mono ?_
                  rintro e w253 ⟨rfl, hb⟩
                  refine ⟨_, rfl, ?_⟩; replace HO_3 := Sb HO_3 hb; replace HL568_5 := Rb HL568_5 hb; replace BK549 := kf BK549 hb; replace BK554 := kf BK554 hb; replace BK569 := kf BK569 hb; replace HB := bs HB hb
                  (try clear hb); (try clear hb2); (try clear hk); (try clear hi)
                  refine hK.out _ _ ⟨bq16 BK569 0, bq16 BK569 1, bq16 BK569 2, bq16 BK569 3, bq16 BK569 4, bq16 BK569 5, bq16 BK569 6, bq16 BK569 7, bq16 BK569 8, bq16 BK549 0, bq16 BK549 1, bq16 BK549 2⟩ (fun hHeld => ?_)
                  clear hK K
                  refine norm_ (a' := ?_) ?_ ?_
                  rotate_left
                  ·show Act.put _ (some 92) _ = _
                   simp only [Act.put, List.setIfInBounds_toArray, List.set_cons_zero, List.set_cons_succ, i64_w, i32_w]
                   rfl
                  refine pu_ (i := 5) (N := some 93) b16_6 HT_ ?_
                  refine pu_ (i := 6) (N := some 94) b16_5 HT_ ?_
                  refine pu_ (i := 7) (N := some 95) b16_4 HT_ ?_
                  refine pu_ (i := 8) (N := some 96) b16_3 HT_ ?_
                  refine tk_ (i := 9) (N := some 97) b16_2 rfl rfl HT_ HW_ hHeld ?_
                  refine pu_ (i := 10) (N := some 98) b16_1 HT_ ?_
                  refine pu_ (i := 11) (N := some 99) b16_0 HT_ ?_
                  refine done_ (done_of HT_.out KR) ?_
                  have hnb254 := NB554_549.out; have hnc254 := NB549_554.out
                  obtain ⟨_, _, _, _, _, _, _, _⟩ := bc4 BK554
                  obtain ⟨_, _, _, _, _, _, _, _, _, _, _, _, _, _, _, _, _, _⟩ := bc9 BK569
                  try go_wp2_with (first | ((with_reducible refine gate_callee (f := 58) rfl ?_); refine goesL_ (some 105) rfl rfl Try.func58 KR rfl #[.agg #[.int .i64 t550, .int .i64 t551, .int .i64 t552, .bool false], .int .i64 ((rd_T40 t543 x7_3).f0.f2)] rfl AR ?_; (with_reducible refine (impl_GuessForm.calls t550 t551 t552 false ((rd_T40 t543 x7_3).f0.f2) t576 false _ A91.out).mono ?_); rintro e w257 ⟨rfl, hb⟩; refine ⟨_, rfl, ?_⟩; replace HO_3 := Sb HO_3 hb; replace HL568_5 := Rb HL568_5 hb; replace BK549 := kf BK549 hb; replace BK554 := kf BK554 hb; replace BK569 := kf BK569 hb; replace HB := bs HB hb; (try clear hb); (try clear hb2); (try clear hk); (try clear hi); obtain ⟨_, _, _, _, _, _, _, _⟩ := bc4 BK554))
                  go_roundg k3
                  case measure => have := HJ20.out; have := HJ45.out; have := HK3.out; omega
                  case rel => exact ⟨(wrap64 (x7_3 + 1)), (by first | rfl | (simp; done) | (simp [*]; done)), H', ⟨by have := HJ20.out; have := HJ45.out; have := HK3.out; omega⟩, ⟨SX HO_3.out (fun _ hk => trivial)⟩, ⟨PK BK549⟩, ⟨PK BK554⟩, ⟨PB⟩⟩
            ·rw [if_neg c70] at H
             exact absurd H (by simp)
           ·rw [if_neg c69] at H
            have c69b0 : decide (x7_3 < (t543.length : Int)) = false := decide_eq_false c69
            clear c69; replace H := Option.bind_eq_some_iff.mp H
            obtain ⟨⟨t560, t561, t562, t563, t564⟩, A2590, H⟩ := H
            replace H : ((impl_GuessForm.f t560 t561 t562 t563 t564).bind fun bt566 => (if bt566.1 ≥ 0 then (if bt566.1 ≤ 999 then (if bt566.2 = true then (some t563) else (some true)) else (some false)) else (some false))) = some r := H
            have A259 := Aside0.mk A2590; clear A2590; replace H := Option.bind_eq_some_iff.mp H
            obtain ⟨⟨t566, t567⟩, A2600, H⟩ := H
            replace H : (if t566 ≥ 0 then (if t566 ≤ 999 then (if t567 = true then (some t563) else (some true)) else (some false)) else (some false)) = some r := H
            have A260 := Aside0.mk A2600; clear A2600
            by_cases c261 : t566 ≥ 0
            ·rw [if_pos c261] at H
             have c261b0 : decide (0 ≤ t566) = true := decide_eq_true c261
             clear c261
             by_cases c262 : t566 ≤ 999
             ·rw [if_pos c262] at H
              have c262b0 : decide (t566 ≤ 999) = true := decide_eq_true c262
              clear c262
              by_cases c263 : t567 = true
              ·subst c263
               have H1 : (some t563) = some r := by rw [if_pos rfl] at H; exact H
               clear H; have H := H1; clear H1
               obtain rfl := Option.some.inj H
               subst hT_
               go_wp2_with (first | ((with_reducible refine gate_callee (f := 60) rfl ?_); refine goesL_ (some 135) rfl rfl Try.func60 KR rfl #[.slice A0 l0.length c0] rfl AR ?_; (with_reducible refine (spec_DrawGuessForm.calls k3 _ _ l0 t560 t561 t562 true t564 _ ?side1 ?side2 A259.out).mono ?_); (case side1 => exact CR (Kd.C_below HR0.out HB.out)); (case side2 => exact HC0.out); rintro e w264 ⟨rfl, hb⟩; refine ⟨_, rfl, ?_⟩; replace HO_3 := Sb HO_3 hb; replace BK549 := kf BK549 hb; replace BK554 := kf BK554 hb; replace HB := bs HB hb; (try clear hb); (try clear hb2); (try clear hk); (try clear hi)) | ((with_reducible refine gate_dst (N := 11) rfl ?_); refine bx_ (N := 11) #[.int .i64 0, .int .i64 0, .int .i64 0, .bool false] 85 ?_; intro gb565 hg w265 hbox hb; replace HO_3 := Sb HO_3 hb; have BK565 := ak hbox; have GW565 := gy hg HB; have GE565 := gy hg HB; replace HB := bs HB hb; have NB549_565 := gm hg BK549; have NB565_549 := gn hg BK549; replace BK549 := kf BK549 hb; have NB554_565 := gm hg BK554; have NB565_554 := gn hg BK554; replace BK554 := kf BK554 hb; clear hb hbox hg; have hnb266 := NB565_549.out; have hnc266 := NB549_565.out; have hnb267 := NB565_554.out; have hnc267 := NB554_565.out; obtain ⟨_, _, _, _, _, _, _, _⟩ := bc4 BK565) | ((with_reducible refine gate_callee (f := 58) rfl ?_); refine goesL_ (some 141) rfl rfl Try.func58 KR rfl #[.agg #[.int .i64 t560, .int .i64 t561, .int .i64 t562, .bool true], .int .i64 t564] rfl AR ?_; (with_reducible refine (impl_GuessForm.calls t560 t561 t562 true t564 t566 true _ A260.out).mono ?_); rintro e w269 ⟨rfl, hb⟩; refine ⟨_, rfl, ?_⟩; replace HO_3 := ak (Kd.S_below (Se1 HO_3 BK565) hb); replace BK549 := kf BK549 hb; replace BK554 := kf BK554 hb; replace BK565 := kp (cs' := #[.int .i64 t560, .int .i64 t561, .int .i64 t562, .bool true]) BK565 hb; replace HB := bs HB hb; (try clear hb); (try clear hb2); (try clear hk); (try clear hi); obtain ⟨_, _, _, _, _, _, _, _⟩ := bc4 BK565))
               go_ret
               exact ⟨RT, PB⟩
              ·replace c263 := Bool.eq_false_iff.mpr c263
               subst c263
               have H1 : (some true) = some r := by rw [if_neg (show ¬ (false = true) by decide)] at H; exact H
               clear H; have H := H1; clear H1
               obtain rfl := Option.some.inj H
               go_wp2_with (first | ((with_reducible refine gate_callee (f := 60) rfl ?_); refine goesL_ (some 135) rfl rfl Try.func60 KR rfl #[.slice A0 l0.length c0] rfl AR ?_; (with_reducible refine (spec_DrawGuessForm.calls k3 _ _ l0 t560 t561 t562 t563 t564 _ ?side1 ?side2 A259.out).mono ?_); (case side1 => exact CR (Kd.C_below HR0.out HB.out)); (case side2 => exact HC0.out); rintro e w271 ⟨rfl, hb⟩; refine ⟨_, rfl, ?_⟩; replace HO_3 := Sb HO_3 hb; replace BK549 := kf BK549 hb; replace BK554 := kf BK554 hb; replace HB := bs HB hb; (try clear hb); (try clear hb2); (try clear hk); (try clear hi)) | ((with_reducible refine gate_dst (N := 11) rfl ?_); refine bx_ (N := 11) #[.int .i64 0, .int .i64 0, .int .i64 0, .bool false] 85 ?_; intro gb565 hg w272 hbox hb; replace HO_3 := Sb HO_3 hb; have BK565 := ak hbox; have GW565 := gy hg HB; have GE565 := gy hg HB; replace HB := bs HB hb; have NB549_565 := gm hg BK549; have NB565_549 := gn hg BK549; replace BK549 := kf BK549 hb; have NB554_565 := gm hg BK554; have NB565_554 := gn hg BK554; replace BK554 := kf BK554 hb; clear hb hbox hg; have hnb273 := NB565_549.out; have hnc273 := NB549_565.out; have hnb274 := NB565_554.out; have hnc274 := NB554_565.out; obtain ⟨_, _, _, _, _, _, _, _⟩ := bc4 BK565) | ((with_reducible refine gate_callee (f := 58) rfl ?_); refine goesL_ (some 141) rfl rfl Try.func58 KR rfl #[.agg #[.int .i64 t560, .int .i64 t561, .int .i64 t562, .bool t563], .int .i64 t564] rfl AR ?_; (with_reducible refine (impl_GuessForm.calls t560 t561 t562 t563 t564 t566 false _ A260.out).mono ?_); rintro e w276 ⟨rfl, hb⟩; refine ⟨_, rfl, ?_⟩; replace HO_3 := ak (Kd.S_below (Se1 HO_3 BK565) hb); replace BK549 := kf BK549 hb; replace BK554 := kf BK554 hb; replace BK565 := kp (cs' := #[.int .i64 t560, .int .i64 t561, .int .i64 t562, .bool t563]) BK565 hb; replace HB := bs HB hb; (try clear hb); (try clear hb2); (try clear hk); (try clear hi)))
               go_ret
               exact ⟨RT, PB⟩
             ·rw [if_neg c262] at H
              have c262b0 : decide (t566 ≤ 999) = false := decide_eq_false c262
              clear c262
              cases (Option.some.inj H).trans hT_
            ·rw [if_neg c261] at H
             have c261b0 : decide (0 ≤ t566) = false := decide_eq_false c261
             clear c261
             cases (Option.some.inj H).trans hT_
/-- THE ONE PURE STATEMENT of laws_FnForms: yours. -/
def laws_FnForms.Pure : Prop := ∀ (l0 : List Int), l0.length ≤ maxLen → l0.length * 1 ≤ 140737488351232 → (∀ x ∈ l0, (Lit.int .u8 x).wf = true) → ∃ k, laws_FnForms.f k l0 = some true
theorem laws_FnForms.walk (P : laws_FnForms.Pure) (a0 : Option Addr) (len0 cap0 : Nat) (z0 : List Int) (w : World) (w0 : (a0 = none ∧ len0 = 0 ∧ cap0 = 0 ∧ z0 = []) ∨ ∃ x, a0 = some x ∧ len0 ≤ cap0 ∧ cap0 ≤ maxLen ∧ z0.length = cap0 ∧ (∀ i, i < z0.length → w.cell? (x.add i) = some (.int .u8 (z0.getD i 0))) ∧ ∀ n ∈ z0, (Lit.int .u8 n).wf = true) (y0 : len0 * 1 ≤ 140737488351232) :
    Calls Try.prog 8 #[.slice a0 len0 cap0] w fun e w' => e = .returned (.bool true) ∧ Below w.heap.size w w' := by
  obtain ⟨l0, rfl, hr0, hm0, hw0, hc0⟩ := ReadsInt.ofRowC w0
  obtain ⟨k, h⟩ := P l0 hm0 y0 hw0
  refine (laws_FnForms.calls k _ _ l0 true w (Kd.C_of_reads (d := (0 : Int)) (h1 := fun _ => rfl) hr0) hc0 rfl h).mono ?_
  rintro e w' ⟨rfl, hd⟩
  exact ⟨rfl, hd⟩

end Go.Proofs.Ytgcamebeonodeaa.MFnForms
