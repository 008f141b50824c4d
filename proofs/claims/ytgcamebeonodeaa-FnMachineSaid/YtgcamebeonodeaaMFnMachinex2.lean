-- Written by a program of this session out of the translation's own print. Not trusted: Lean checks it.
import Derived.Test.YtgcamebeonodeaaShr2
import Derived.Test.YtgcamebeonodeaaMFnMachinex0
import Derived.Test.YtgcamebeonodeaaMFnMachinex1
namespace Go.Proofs.Ytgcamebeonodeaa.MFnMachine
open Go.RowKit Go.Proofs.YtgcamebeonodeaaW.PrintWords Go.Proofs.YtgcamebeonodeaaW.PrintLast Go.Proofs.YtgcamebeonodeaaW.PrintMore
attribute [local go_sem] max2_int min2_int max_two min_two max_three min_three max_four min_four   -- for this text's walks alone
set_option linter.unusedVariables false
set_option linter.unusedSimpArgs false

/-! ### spec_l10Any: function 132 -/
def spec_l10Any.l0 : Nat → List (S121) → List Int → Int → Int → Option ((List (S121)) × Int × Int)
  | 0, _, _, _, _ => none
  | k + 1, x3, x1000, x1001, x1002 => if (x3.length : Int) < 17 then (if x3.length < 4398046511104 then (spec_l10Any.l0 k (x3 ++ [(⟨2, 0, 0, 0⟩ : S121)]) x1000 x1001 x1002) else (none)) else (some (x3, x1001, x1002))
def spec_l10Any.f (k : Nat) (s0_0 : List Int) (s0_1 : Int) (s0_2 : Int) : Option ((List (S121)) × Int × Int) := (spec_l10Draw.f k s0_0 s0_1 s0_2).bind fun bt180 => (if (bt180.1.length : Int) = 0 then (some (bt180.1, bt180.2.1, bt180.2.2)) else ((spec_l1Below.f s0_0 bt180.2.1 bt180.2.2 (bt180.1.length : Int)).bind fun bt185 => ((spec_l1Below.f s0_0 bt185.2.1 bt185.2.2 12).bind fun bt188 => (if bt188.1 = 0 then ((spec_l1Int.f s0_0 bt188.2.1 bt188.2.2 (([0, 10, 5] : List Int))).bind fun bt194 => (if 0 ≤ bt185.1 then (if bt185.1 < (bt180.1.length : Int) then (some ((bt180.1.set (bt185.1 : Int).toNat (⟨bt194.1, (rd_T121 bt180.1 bt185.1).f1, (rd_T121 bt180.1 bt185.1).f2, (rd_T121 bt180.1 bt185.1).f3⟩ : S121)), bt194.2.1, bt194.2.2)) else (none)) else (none))) else (if bt188.1 = 1 then ((spec_l1Int.f s0_0 bt188.2.1 bt188.2.2 (([(-1), 3, 4] : List Int))).bind fun bt201 => (if 0 ≤ bt185.1 then (if bt185.1 < (bt180.1.length : Int) then (some ((bt180.1.set (bt185.1 : Int).toNat (⟨(rd_T121 bt180.1 bt185.1).f0, bt201.1, (rd_T121 bt180.1 bt185.1).f2, (rd_T121 bt180.1 bt185.1).f3⟩ : S121)), bt201.2.1, bt201.2.2)) else (none)) else (none))) else (if bt188.1 = 2 then ((spec_l4Raw.f s0_0 bt188.2.1 bt188.2.2).bind fun bt205 => (if 0 ≤ bt185.1 then (if bt185.1 < (bt180.1.length : Int) then (some ((bt180.1.set (bt185.1 : Int).toNat (⟨(rd_T121 bt180.1 bt185.1).f0, (rd_T121 bt180.1 bt185.1).f1, bt205.1, (rd_T121 bt180.1 bt185.1).f3⟩ : S121)), bt205.2.1, bt205.2.2)) else (none)) else (none))) else (if bt188.1 = 3 then ((spec_l4Raw.f s0_0 bt188.2.1 bt188.2.2).bind fun bt209 => (if 0 ≤ bt185.1 then (if bt185.1 < (bt180.1.length : Int) then (some ((bt180.1.set (bt185.1 : Int).toNat (⟨(rd_T121 bt180.1 bt185.1).f0, (rd_T121 bt180.1 bt185.1).f1, (rd_T121 bt180.1 bt185.1).f2, bt209.1⟩ : S121)), bt209.2.1, bt209.2.2)) else (none)) else (none))) else (if bt188.1 = 4 then (spec_l10Any.l0 k bt180.1 s0_0 bt188.2.1 bt188.2.2) else (some (bt180.1, bt188.2.1, bt188.2.2))))))))))
set_option maxHeartbeats 8000000 in
set_option maxRecDepth 100000 in
theorem spec_l10Any.calls (k : Nat) (g : Nat) (s0_0 : List Int) (s0_1 : Int) (s0_2 : Int) (r1 : List (S121)) (r2 : Int) (r3 : Int) (w0 w : World) (hI : IsS158 w0 w g s0_0 s0_1 s0_2) (hB : Below w0.heap.size w0 w) (h : spec_l10Any.f k s0_0 s0_1 s0_2 = some (r1, r2, r3)) :
  Calls Try.prog 132 #[.pointer (some ⟨g, 0, none⟩)] w fun e w' => ∃ v0_ : Value, e = .returned (v0_) ∧ Kd.R k121 121 w' w.heap.size (fun _ => True) v0_ r1 ∧ IsS158 w0 w' g s0_0 r2 r3 ∧ Below w0.heap.size w0 w' ∧ KeepBut w w' g none := by
 have hu121 := Try.underlying121
 have HI0 := Aside0.mk hI
 have HK := ak (KeepBut.refl w g none)
 have HL := Aside0.mk hB.size
 clear hI
 have HW0 := Aside0.mk hB.size
 have HB := Aside0.mk hB
 clear hB
 have H : ((spec_l10Draw.f k s0_0 s0_1 s0_2).bind fun bt180 => (if (bt180.1.length : Int) = 0 then (some (bt180.1, bt180.2.1, bt180.2.2)) else ((spec_l1Below.f s0_0 bt180.2.1 bt180.2.2 (bt180.1.length : Int)).bind fun bt185 => ((spec_l1Below.f s0_0 bt185.2.1 bt185.2.2 12).bind fun bt188 => (if bt188.1 = 0 then ((spec_l1Int.f s0_0 bt188.2.1 bt188.2.2 (([0, 10, 5] : List Int))).bind fun bt194 => (if 0 ≤ bt185.1 then (if bt185.1 < (bt180.1.length : Int) then (some ((bt180.1.set (bt185.1 : Int).toNat (⟨bt194.1, (rd_T121 bt180.1 bt185.1).f1, (rd_T121 bt180.1 bt185.1).f2, (rd_T121 bt180.1 bt185.1).f3⟩ : S121)), bt194.2.1, bt194.2.2)) else (none)) else (none))) else (if bt188.1 = 1 then ((spec_l1Int.f s0_0 bt188.2.1 bt188.2.2 (([(-1), 3, 4] : List Int))).bind fun bt201 => (if 0 ≤ bt185.1 then (if bt185.1 < (bt180.1.length : Int) then (some ((bt180.1.set (bt185.1 : Int).toNat (⟨(rd_T121 bt180.1 bt185.1).f0, bt201.1, (rd_T121 bt180.1 bt185.1).f2, (rd_T121 bt180.1 bt185.1).f3⟩ : S121)), bt201.2.1, bt201.2.2)) else (none)) else (none))) else (if bt188.1 = 2 then ((spec_l4Raw.f s0_0 bt188.2.1 bt188.2.2).bind fun bt205 => (if 0 ≤ bt185.1 then (if bt185.1 < (bt180.1.length : Int) then (some ((bt180.1.set (bt185.1 : Int).toNat (⟨(rd_T121 bt180.1 bt185.1).f0, (rd_T121 bt180.1 bt185.1).f1, bt205.1, (rd_T121 bt180.1 bt185.1).f3⟩ : S121)), bt205.2.1, bt205.2.2)) else (none)) else (none))) else (if bt188.1 = 3 then ((spec_l4Raw.f s0_0 bt188.2.1 bt188.2.2).bind fun bt209 => (if 0 ≤ bt185.1 then (if bt185.1 < (bt180.1.length : Int) then (some ((bt180.1.set (bt185.1 : Int).toNat (⟨(rd_T121 bt180.1 bt185.1).f0, (rd_T121 bt180.1 bt185.1).f1, (rd_T121 bt180.1 bt185.1).f2, bt209.1⟩ : S121)), bt209.2.1, bt209.2.2)) else (none)) else (none))) else (if bt188.1 = 4 then (spec_l10Any.l0 k bt180.1 s0_0 bt188.2.1 bt188.2.2) else (some (bt180.1, bt188.2.1, bt188.2.2))))))))))) = some (r1, r2, r3) := h
 clear h
 replace H := Option.bind_eq_some_iff.mp H
 obtain ⟨⟨t180, t183, t184⟩, A20, H⟩ := H
 replace H : (if (t180.length : Int) = 0 then (some (t180, t183, t184)) else ((spec_l1Below.f s0_0 t183 t184 (t180.length : Int)).bind fun bt185 => ((spec_l1Below.f s0_0 bt185.2.1 bt185.2.2 12).bind fun bt188 => (if bt188.1 = 0 then ((spec_l1Int.f s0_0 bt188.2.1 bt188.2.2 (([0, 10, 5] : List Int))).bind fun bt194 => (if 0 ≤ bt185.1 then (if bt185.1 < (t180.length : Int) then (some ((t180.set (bt185.1 : Int).toNat (⟨bt194.1, (rd_T121 t180 bt185.1).f1, (rd_T121 t180 bt185.1).f2, (rd_T121 t180 bt185.1).f3⟩ : S121)), bt194.2.1, bt194.2.2)) else (none)) else (none))) else (if bt188.1 = 1 then ((spec_l1Int.f s0_0 bt188.2.1 bt188.2.2 (([(-1), 3, 4] : List Int))).bind fun bt201 => (if 0 ≤ bt185.1 then (if bt185.1 < (t180.length : Int) then (some ((t180.set (bt185.1 : Int).toNat (⟨(rd_T121 t180 bt185.1).f0, bt201.1, (rd_T121 t180 bt185.1).f2, (rd_T121 t180 bt185.1).f3⟩ : S121)), bt201.2.1, bt201.2.2)) else (none)) else (none))) else (if bt188.1 = 2 then ((spec_l4Raw.f s0_0 bt188.2.1 bt188.2.2).bind fun bt205 => (if 0 ≤ bt185.1 then (if bt185.1 < (t180.length : Int) then (some ((t180.set (bt185.1 : Int).toNat (⟨(rd_T121 t180 bt185.1).f0, (rd_T121 t180 bt185.1).f1, bt205.1, (rd_T121 t180 bt185.1).f3⟩ : S121)), bt205.2.1, bt205.2.2)) else (none)) else (none))) else (if bt188.1 = 3 then ((spec_l4Raw.f s0_0 bt188.2.1 bt188.2.2).bind fun bt209 => (if 0 ≤ bt185.1 then (if bt185.1 < (t180.length : Int) then (some ((t180.set (bt185.1 : Int).toNat (⟨(rd_T121 t180 bt185.1).f0, (rd_T121 t180 bt185.1).f1, (rd_T121 t180 bt185.1).f2, bt209.1⟩ : S121)), bt209.2.1, bt209.2.2)) else (none)) else (none))) else (if bt188.1 = 4 then (spec_l10Any.l0 k t180 s0_0 bt188.2.1 bt188.2.2) else (some (t180, bt188.2.1, bt188.2.2)))))))))) = some (r1, r2, r3) := H
 have A2 := Aside0.mk A20
 clear A20
 by_cases c3 : (t180.length : Int) = 0
 ·rw [if_pos c3] at H
  have c3b0 : ((t180.length : Int) == 0) = true := beq_iff_eq.mpr c3
  have c3b1 : ((t180.length : Int) != 0) = false := bne_eq_false_iff_eq.mpr c3
  clear c3
  simp only [Option.some.injEq, Prod.mk.injEq] at H
  obtain ⟨rfl, rfl, rfl⟩ := H
  go_enter Try.func132, Try.ntmps132
  go_wp2_with (first | ((with_reducible refine gate_callee (f := 157) rfl ?_); refine goesL_ (some 6) rfl rfl Try.func157 KR rfl #[.pointer (some ⟨g, 0, none⟩)] rfl AR ?_; (with_reducible refine (spec_l10Draw.calls k g s0_0 s0_1 s0_2 t180 t183 t184 w0 _ ?side1 ?side2 A2.out).mono ?_); (case side1 => exact PI); (case side2 => exact PL); rintro e w4 ⟨v181, rfl, ho0, hi, hb, hk⟩; refine ⟨_, rfl, ?_⟩; have HO182 := ak (Kd.R_lower ho0 (keep_size (w := w) (g := g) (row := none) PH)); replace HK := kt HK hk; replace HB := ak hb; replace HI0 := ak (hi); (try clear hb); (try clear hb2); (try clear hk); (try clear hi); (try clear ho0); obtain ⟨Ao5, co5, eo5⟩ := Kd.R_slice HO182.out; subst eo5))
  go_ret
  exact ⟨_, RT, by (with_reducible repeat (first | apply Kd.R_alloc | apply Kd.R_drewN | apply Kd.R_drew)); exact HO182.out, PI, PL, PH⟩
 ·rw [if_neg c3] at H
  have c3b0 : ((t180.length : Int) == 0) = false := beq_eq_false_iff_ne.mpr c3
  have c3b1 : ((t180.length : Int) != 0) = true := bne_iff_ne.mpr c3
  have c3b2 : ¬ (t180 = []) := fun h_ => c3 (by rw [h_]; rfl)
  replace H := Option.bind_eq_some_iff.mp H
  obtain ⟨⟨t185, t186, t187⟩, A60, H⟩ := H
  replace H : ((spec_l1Below.f s0_0 t186 t187 12).bind fun bt188 => (if bt188.1 = 0 then ((spec_l1Int.f s0_0 bt188.2.1 bt188.2.2 (([0, 10, 5] : List Int))).bind fun bt194 => (if 0 ≤ t185 then (if t185 < (t180.length : Int) then (some ((t180.set (t185 : Int).toNat (⟨bt194.1, (rd_T121 t180 t185).f1, (rd_T121 t180 t185).f2, (rd_T121 t180 t185).f3⟩ : S121)), bt194.2.1, bt194.2.2)) else (none)) else (none))) else (if bt188.1 = 1 then ((spec_l1Int.f s0_0 bt188.2.1 bt188.2.2 (([(-1), 3, 4] : List Int))).bind fun bt201 => (if 0 ≤ t185 then (if t185 < (t180.length : Int) then (some ((t180.set (t185 : Int).toNat (⟨(rd_T121 t180 t185).f0, bt201.1, (rd_T121 t180 t185).f2, (rd_T121 t180 t185).f3⟩ : S121)), bt201.2.1, bt201.2.2)) else (none)) else (none))) else (if bt188.1 = 2 then ((spec_l4Raw.f s0_0 bt188.2.1 bt188.2.2).bind fun bt205 => (if 0 ≤ t185 then (if t185 < (t180.length : Int) then (some ((t180.set (t185 : Int).toNat (⟨(rd_T121 t180 t185).f0, (rd_T121 t180 t185).f1, bt205.1, (rd_T121 t180 t185).f3⟩ : S121)), bt205.2.1, bt205.2.2)) else (none)) else (none))) else (if bt188.1 = 3 then ((spec_l4Raw.f s0_0 bt188.2.1 bt188.2.2).bind fun bt209 => (if 0 ≤ t185 then (if t185 < (t180.length : Int) then (some ((t180.set (t185 : Int).toNat (⟨(rd_T121 t180 t185).f0, (rd_T121 t180 t185).f1, (rd_T121 t180 t185).f2, bt209.1⟩ : S121)), bt209.2.1, bt209.2.2)) else (none)) else (none))) else (if bt188.1 = 4 then (spec_l10Any.l0 k t180 s0_0 bt188.2.1 bt188.2.2) else (some (t180, bt188.2.1, bt188.2.2)))))))) = some (r1, r2, r3) := H
  have A6 := Aside0.mk A60
  clear A60
  replace H := Option.bind_eq_some_iff.mp H
  obtain ⟨⟨t188, t189, t190⟩, A70, H⟩ := H
  replace H : (if t188 = 0 then ((spec_l1Int.f s0_0 t189 t190 (([0, 10, 5] : List Int))).bind fun bt194 => (if 0 ≤ t185 then (if t185 < (t180.length : Int) then (some ((t180.set (t185 : Int).toNat (⟨bt194.1, (rd_T121 t180 t185).f1, (rd_T121 t180 t185).f2, (rd_T121 t180 t185).f3⟩ : S121)), bt194.2.1, bt194.2.2)) else (none)) else (none))) else (if t188 = 1 then ((spec_l1Int.f s0_0 t189 t190 (([(-1), 3, 4] : List Int))).bind fun bt201 => (if 0 ≤ t185 then (if t185 < (t180.length : Int) then (some ((t180.set (t185 : Int).toNat (⟨(rd_T121 t180 t185).f0, bt201.1, (rd_T121 t180 t185).f2, (rd_T121 t180 t185).f3⟩ : S121)), bt201.2.1, bt201.2.2)) else (none)) else (none))) else (if t188 = 2 then ((spec_l4Raw.f s0_0 t189 t190).bind fun bt205 => (if 0 ≤ t185 then (if t185 < (t180.length : Int) then (some ((t180.set (t185 : Int).toNat (⟨(rd_T121 t180 t185).f0, (rd_T121 t180 t185).f1, bt205.1, (rd_T121 t180 t185).f3⟩ : S121)), bt205.2.1, bt205.2.2)) else (none)) else (none))) else (if t188 = 3 then ((spec_l4Raw.f s0_0 t189 t190).bind fun bt209 => (if 0 ≤ t185 then (if t185 < (t180.length : Int) then (some ((t180.set (t185 : Int).toNat (⟨(rd_T121 t180 t185).f0, (rd_T121 t180 t185).f1, (rd_T121 t180 t185).f2, bt209.1⟩ : S121)), bt209.2.1, bt209.2.2)) else (none)) else (none))) else (if t188 = 4 then (spec_l10Any.l0 k t180 s0_0 t189 t190) else (some (t180, t189, t190))))))) = some (r1, r2, r3) := H
  have A7 := Aside0.mk A70
  clear A70
  by_cases c8 : t188 = 0
  ·rw [if_pos c8] at H
   have c8b0 : (t188 == 0) = true := beq_iff_eq.mpr c8
   have c8b1 : (t188 != 0) = false := bne_eq_false_iff_eq.mpr c8
   clear c8
   obtain ⟨y191, hy191⟩ : ∃ y_ : List Int, y_ = (([0, 10, 5] : List Int)) := ⟨_, rfl⟩
   replace H : ((spec_l1Int.f s0_0 t189 t190 y191).bind fun bt194 => (if 0 ≤ t185 then (if t185 < (t180.length : Int) then (some ((t180.set (t185 : Int).toNat (⟨bt194.1, (rd_T121 t180 t185).f1, (rd_T121 t180 t185).f2, (rd_T121 t180 t185).f3⟩ : S121)), bt194.2.1, bt194.2.2)) else (none)) else (none))) = some (r1, r2, r3) := by first | (rw [hy191]; with_reducible exact H) | (have H2_ := (Option.bind_some _ _).symm.trans H; rw [hy191]; with_reducible exact H2_) | (have H2_ := (Option.bind_some _ _).symm.trans H; with_reducible exact H2_) | with_reducible exact H | (rw [hy191]; exact H) | exact H
   have Ny191 := Aside0.mk hy191
   clear hy191
   replace H := Option.bind_eq_some_iff.mp H
   obtain ⟨⟨t194, t195, t196⟩, A90, H⟩ := H
   replace H : (if 0 ≤ t185 then (if t185 < (t180.length : Int) then (some ((t180.set (t185 : Int).toNat (⟨t194, (rd_T121 t180 t185).f1, (rd_T121 t180 t185).f2, (rd_T121 t180 t185).f3⟩ : S121)), t195, t196)) else (none)) else (none)) = some (r1, r2, r3) := H
   have A9 := Aside0.mk A90
   clear A90
   by_cases c10 : 0 ≤ t185
   ·rw [if_pos c10] at H
    have c10b0 : decide (0 ≤ t185) = true := decide_eq_true c10
    clear c10
    by_cases c11 : t185 < (t180.length : Int)
    ·rw [if_pos c11] at H
     have c11b0 : decide (t185 < (t180.length : Int)) = true := decide_eq_true c11
     clear c11
     obtain ⟨y197, hy197⟩ : ∃ y_ : List (S121), y_ = (t180.set (t185 : Int).toNat (⟨t194, (rd_T121 t180 t185).f1, (rd_T121 t180 t185).f2, (rd_T121 t180 t185).f3⟩ : S121)) := ⟨_, rfl⟩
     replace H : (some (y197, t195, t196)) = some (r1, r2, r3) := by first | (rw [hy197]; with_reducible exact H) | (have H2_ := (Option.bind_some _ _).symm.trans H; rw [hy197]; with_reducible exact H2_) | (have H2_ := (Option.bind_some _ _).symm.trans H; with_reducible exact H2_) | with_reducible exact H | (rw [hy197]; exact H) | exact H
     have Ny197 := Aside0.mk hy197
     clear hy197
     simp only [Option.some.injEq, Prod.mk.injEq] at H
     obtain ⟨rfl, rfl, rfl⟩ := H
     go_enter Try.func132, Try.ntmps132
     go_wp2_with (first | ((with_reducible refine gate_callee (f := 157) rfl ?_); refine goesL_ (some 6) rfl rfl Try.func157 KR rfl #[.pointer (some ⟨g, 0, none⟩)] rfl AR ?_; (with_reducible refine (spec_l10Draw.calls k g s0_0 s0_1 s0_2 t180 t183 t184 w0 _ ?side1 ?side2 A2.out).mono ?_); (case side1 => exact PI); (case side2 => exact PL); rintro e w13 ⟨v181, rfl, ho0, hi, hb, hk⟩; refine ⟨_, rfl, ?_⟩; have HO182 := ak (Kd.R_lower ho0 (keep_size (w := w) (g := g) (row := none) PH)); replace HK := kt HK hk; replace HB := ak hb; replace HI0 := ak (hi); (try clear hb); (try clear hb2); (try clear hk); (try clear hi); (try clear ho0); obtain ⟨Ao14, co14, eo14⟩ := Kd.R_slice HO182.out; subst eo14) | ((with_reducible refine gate_callee (f := 68) rfl ?_); refine goesL_ (some 14) rfl rfl Try.func68 KR rfl #[.pointer (some ⟨g, 0, none⟩), .int .i64 (t180.length : Int)] rfl AR ?_; (with_reducible refine (spec_l1Below.calls g s0_0 t183 t184 (t180.length : Int) t185 t186 t187 w0 _ ?side1 ?side2 A6.out).mono ?_); (case side1 => exact PI); (case side2 => exact PL); rintro e w15 ⟨rfl, hi, hb, hk⟩; refine ⟨_, rfl, ?_⟩; replace HO182 := Rk (IsS158.apart (show IsS158 w0 _ g s0_0 t183 t184 from PI) (PR HO182) (by decide)) hk; replace HK := kt HK hk; replace HB := ak hb; replace HI0 := ak (hi); (try clear hb); (try clear hb2); (try clear hk); (try clear hi)) | ((with_reducible refine gate_callee (f := 68) rfl ?_); refine goesL_ (some 16) rfl rfl Try.func68 KR rfl #[.pointer (some ⟨g, 0, none⟩), .int .i64 12] rfl AR ?_; (with_reducible refine (spec_l1Below.calls g s0_0 t186 t187 12 t188 t189 t190 w0 _ ?side1 ?side2 A7.out).mono ?_); (case side1 => exact PI); (case side2 => exact PL); rintro e w16 ⟨rfl, hi, hb, hk⟩; refine ⟨_, rfl, ?_⟩; replace HO182 := Rk (IsS158.apart (show IsS158 w0 _ g s0_0 t186 t187 from PI) (PR HO182) (by decide)) hk; replace HK := kt HK hk; replace HB := ak hb; replace HI0 := ak (hi); (try clear hb); (try clear hb2); (try clear hk); (try clear hi)) | ((with_reducible refine gate_dst (N := 22) rfl ?_); refine Kd.R_lit (Kd.int .i64) _ 3 ?hg (N := 22) ?hd (xs := ([0, 10, 5] : List Int)) (inner := [.int .i64 0, .int .i64 10, .int .i64 5]) (ok := fun _ => True) (okp := fun _ => True) ?hr ?hp (fun _ hk => hk) trivial (Below.refl _ _) (Nat.le_refl _) (by simp) ?_; (case hd => rfl); (case hg => rfl); (case hr => first | (go_simp; done) | (go_simp; rfl)); (case hp => exact (Reps.one (show Kd.M (Kd.int .i64) _ _ _ 0 [.int .i64 0] from rfl) (Reps.one (show Kd.M (Kd.int .i64) _ _ _ 10 [.int .i64 10] from rfl) (Reps.one (show Kd.M (Kd.int .i64) _ _ _ 5 [.int .i64 5] from rfl) (Reps.none _ _))))); intro v192 w17 ho18 hb hg_ hnew_; clear hg_ hnew_; (first | rw [← Ny191.out] at ho18 | (simp only [Int.reduceToNat] at ho18; rw [← Ny191.out] at ho18)); replace HO182 := Rb HO182 hb; have HO193 := ak (Kd.R_lower ho18 (keep_size (w := w) (g := g) (row := none) PH)); replace HI0 := ak (IsS158.below PI hb); replace HK := ak (KeepBut.trans PH (KeepBut.of_below hb g none) (.inl rfl)); replace HB := bs HB hb; clear hb ho18; obtain ⟨Ao19, co19, eo19⟩ := Kd.R_slice HO193.out; subst eo19) | ((with_reducible refine gate_callee (f := 67) rfl ?_); refine goesL_ (some 23) rfl rfl Try.func67 KR rfl #[.pointer (some ⟨g, 0, none⟩), .slice Ao19 y191.length co19] rfl AR ?_; (with_reducible refine (spec_l1Int.calls g s0_0 t189 t190 _ _ y191 t194 t195 t196 w0 _ ?side1 ?side2 ?side3 ?side4 ?side5 A9.out).mono ?_); (case side1 => exact PI); (case side2 => exact PL); (case side3 => exact CR ((Kd.R_reads' HO193.out).2.2)); (case side4 => exact (Kd.R_reads' HO193.out).2.1); (case side5 => exact far_slice (IsS158.own_ne HI0.out HO193.out (by decide))); rintro e w20 ⟨rfl, hi, hb, hk⟩; refine ⟨_, rfl, ?_⟩; replace HO182 := Rk (IsS158.apart (show IsS158 w0 _ g s0_0 t189 t190 from PI) (PR HO182) (by decide)) hk; replace HO193 := Rk (IsS158.apart (show IsS158 w0 _ g s0_0 t189 t190 from PI) (PR HO193) (by decide)) hk; replace HK := kt HK hk; replace HB := ak hb; replace HI0 := ak (hi); (try clear hb); (try clear hb2); (try clear hk); (try clear hi); have p12 : 0 ≤ (t185 : Int) := of_decide_eq_true (by first | (with_reducible assumption) | assumption); have q12 : (t185 : Int) < ((t180.length : Int) : Int) := of_decide_eq_true (by first | (with_reducible assumption) | assumption); obtain ⟨go12, co12, eo12, gb12, gl12, cl12, HG12⟩ := Kd.R_form HO182.out (by omega); (first | cases eo12 | (injection eo12 with ea_ en_ ec_; (first | subst ea_ | (injection ea_ with ea_; subst ea_)); subst ec_; clear en_)); have GB12 := Aside0.mk gb12; have GG12 := Aside0.mk HG12; clear gb12 gl12 HG12; obtain ⟨ce12, hcl12, hM12, hcc12, hfr12⟩ := Kd.R_elem HO182.out z121 (t185 : Int) p12 q12; obtain rfl := k121_openM hM12; have hx12_0 : w20.cell? ⟨go12, (t185 : Int).toNat * 4, none⟩ = some (.int .i64 ((rd_T121 t180 t185).f0)) := hcc12 0 _ rfl; have hx12_1 : w20.cell? ⟨go12, (t185 : Int).toNat * 4 + 1, none⟩ = some (.int .i64 ((rd_T121 t180 t185).f1)) := hcc12 1 _ rfl; have hx12_2 : w20.cell? ⟨go12, (t185 : Int).toNat * 4 + 2, none⟩ = some (.int .i64 ((rd_T121 t180 t185).f2)) := hcc12 2 _ rfl; have hx12_3 : w20.cell? ⟨go12, (t185 : Int).toNat * 4 + 3, none⟩ = some (.int .i64 ((rd_T121 t180 t185).f3)) := hcc12 3 _ rfl; have hf12_0 : w20.frozen? ⟨go12, (t185 : Int).toNat * 4, none⟩ = false := hfr12 0; have hf12_1 : w20.frozen? ⟨go12, (t185 : Int).toNat * 4 + 1, none⟩ = false := hfr12 1; have hf12_2 : w20.frozen? ⟨go12, (t185 : Int).toNat * 4 + 2, none⟩ = false := hfr12 2; have hf12_3 : w20.frozen? ⟨go12, (t185 : Int).toNat * 4 + 3, none⟩ = false := hfr12 3; clear hcl12 hcc12 hfr12 hM12; replace p12 := eq_true p12; replace q12 := eq_true q12; have HX21 := ak (show Kd.R k121 121 w20 w.heap.size (fun _ => True) (.slice (some ⟨go12, 0, none⟩) t180.length co14) t180 from (PR HO182)); obtain ⟨ce21, hcl21, hM21, hcc21, hfr21⟩ := Kd.R_elem HX21.out z121 (t185 : Int) (of_decide_eq_true (by first | (with_reducible assumption) | assumption)) (by have h_ : (t185 : Int) < ((t180.length : Int) : Int) := of_decide_eq_true (by first | (with_reducible assumption) | assumption); first | exact h_ | (have e_ := (Kd.R_reads' HO182.out).1; omega) | simpa using h_); obtain rfl := k121_openM hM21; have HP21 := Kd.R_seg HX21.out (t185 : Int) (of_decide_eq_true (by first | (with_reducible assumption) | assumption)) (by have h_ : (t185 : Int) < ((t180.length : Int) : Int) := of_decide_eq_true (by first | (with_reducible assumption) | assumption); first | exact h_ | (have e_ := (Kd.R_reads' HO182.out).1; omega) | simpa using h_) (seg := [.int .i64 t194]) (j := 0) hcl21 hcc21 (show 1 ≤ 4 from by decide) (x' := (⟨t194, (rd_T121 t180 t185).f1, (rd_T121 t180 t185).f2, (rd_T121 t180 t185).f3⟩ : S121)) (k121_mkM _ _ _ (⟨t194, (rd_T121 t180 t185).f1, (rd_T121 t180 t185).f2, (rd_T121 t180 t185).f3⟩ : S121) ) (fun _ hk => hk); have hx21_0 := hcc21 0 _ rfl; (try simp only [show (k121).sz = 4 from rfl, Nat.mul_one, Nat.add_zero] at hx21_0); have hf21_0 := hfr21 0; (try simp only [show (k121).sz = 4 from rfl, Nat.mul_one, Nat.add_zero] at hf21_0); clear hcl21 hcc21 hfr21 hM21) | ((with_reducible refine gate_store (t := 3) (p := 25) rfl ?_); refine store_event (t := 3) (p := 25) (v := ?vo_w22) (w1 := (w20.setCell ⟨go12, (t185 : Int).toNat * 4, none⟩ (.int .i64 t194))) ?hg ?ho ?hn ?hr ?_; (case ho => rfl); (case hg => rfl); (case hn => rfl); (case hr => first | (go_simp; done) | (go_simp; rfl)); intro w22 hw; have hg : w20.grownBy w22 (some go12) := (by rw [hw]; exact HP21.2); have hp_ : Kd.R k121 121 w22 w.heap.size (fun _ => True) (.slice (some ⟨go12, 0, none⟩) t180.length co14) y197 := (by rw [hw, Ny197.out]; exact HP21.1); clear HP21; replace HI0 := ak (IsS158.grown PI hg (IsS158.own_ne HI0.out HO182.out (by decide))); replace HO193 := ak (Kd.R_over' (v := (.slice (some ⟨go12, 0, none⟩) t180.length co14)) (PR HO193) (Kd.R_typed HO182.out) (by decide) hg); replace HB := ak ((by rw [hw]; exact below_set (HB.out) (Nat.le_trans HL.out GB12.out) : Below w0.heap.size w0 w22)); replace HK := ak (KeepBut.trans PH (KeepBut.of_grown hg g) (Kd.R_base2 HO182.out)); replace HO182 := ak (hp_); clear hg hw hp_))
     go_ret
     exact ⟨_, RT, by (with_reducible repeat (first | apply Kd.R_alloc | apply Kd.R_drewN | apply Kd.R_drew)); exact HO182.out, PI, PL, PH⟩
    ·rw [if_neg c11] at H
     exact absurd H (by simp)
   ·rw [if_neg c10] at H
    exact absurd H (by simp)
  ·rw [if_neg c8] at H
   have c8b0 : (t188 == 0) = false := beq_eq_false_iff_ne.mpr c8
   have c8b1 : (t188 != 0) = true := bne_iff_ne.mpr c8
   by_cases c23 : t188 = 1
   ·rw [if_pos c23] at H
    have c23b0 : (t188 == 1) = true := beq_iff_eq.mpr c23
    have c23b1 : (t188 != 1) = false := bne_eq_false_iff_eq.mpr c23
    clear c23
    obtain ⟨y198, hy198⟩ : ∃ y_ : List Int, y_ = (([(-1), 3, 4] : List Int)) := ⟨_, rfl⟩
    replace H : ((spec_l1Int.f s0_0 t189 t190 y198).bind fun bt201 => (if 0 ≤ t185 then (if t185 < (t180.length : Int) then (some ((t180.set (t185 : Int).toNat (⟨(rd_T121 t180 t185).f0, bt201.1, (rd_T121 t180 t185).f2, (rd_T121 t180 t185).f3⟩ : S121)), bt201.2.1, bt201.2.2)) else (none)) else (none))) = some (r1, r2, r3) := by first | (rw [hy198]; with_reducible exact H) | (have H2_ := (Option.bind_some _ _).symm.trans H; rw [hy198]; with_reducible exact H2_) | (have H2_ := (Option.bind_some _ _).symm.trans H; with_reducible exact H2_) | with_reducible exact H | (rw [hy198]; exact H) | exact H
    have Ny198 := Aside0.mk hy198
    clear hy198
    replace H := Option.bind_eq_some_iff.mp H
    obtain ⟨⟨t201, t202, t203⟩, A240, H⟩ := H
    replace H : (if 0 ≤ t185 then (if t185 < (t180.length : Int) then (some ((t180.set (t185 : Int).toNat (⟨(rd_T121 t180 t185).f0, t201, (rd_T121 t180 t185).f2, (rd_T121 t180 t185).f3⟩ : S121)), t202, t203)) else (none)) else (none)) = some (r1, r2, r3) := H
    have A24 := Aside0.mk A240
    clear A240
    by_cases c25 : 0 ≤ t185
    ·rw [if_pos c25] at H
     have c25b0 : decide (0 ≤ t185) = true := decide_eq_true c25
     clear c25
     by_cases c26 : t185 < (t180.length : Int)
     ·rw [if_pos c26] at H
      have c26b0 : decide (t185 < (t180.length : Int)) = true := decide_eq_true c26
      clear c26
      obtain ⟨y204, hy204⟩ : ∃ y_ : List (S121), y_ = (t180.set (t185 : Int).toNat (⟨(rd_T121 t180 t185).f0, t201, (rd_T121 t180 t185).f2, (rd_T121 t180 t185).f3⟩ : S121)) := ⟨_, rfl⟩
      replace H : (some (y204, t202, t203)) = some (r1, r2, r3) := by first | (rw [hy204]; with_reducible exact H) | (have H2_ := (Option.bind_some _ _).symm.trans H; rw [hy204]; with_reducible exact H2_) | (have H2_ := (Option.bind_some _ _).symm.trans H; with_reducible exact H2_) | with_reducible exact H | (rw [hy204]; exact H) | exact H
      have Ny204 := Aside0.mk hy204
      clear hy204
      simp only [Option.some.injEq, Prod.mk.injEq] at H
      obtain ⟨rfl, rfl, rfl⟩ := H
      go_enter Try.func132, Try.ntmps132
      go_wp2_with (first | ((with_reducible refine gate_callee (f := 157) rfl ?_); refine goesL_ (some 6) rfl rfl Try.func157 KR rfl #[.pointer (some ⟨g, 0, none⟩)] rfl AR ?_; (with_reducible refine (spec_l10Draw.calls k g s0_0 s0_1 s0_2 t180 t183 t184 w0 _ ?side1 ?side2 A2.out).mono ?_); (case side1 => exact PI); (case side2 => exact PL); rintro e w28 ⟨v181, rfl, ho0, hi, hb, hk⟩; refine ⟨_, rfl, ?_⟩; have HO182 := ak (Kd.R_lower ho0 (keep_size (w := w) (g := g) (row := none) PH)); replace HK := kt HK hk; replace HB := ak hb; replace HI0 := ak (hi); (try clear hb); (try clear hb2); (try clear hk); (try clear hi); (try clear ho0); obtain ⟨Ao29, co29, eo29⟩ := Kd.R_slice HO182.out; subst eo29) | ((with_reducible refine gate_callee (f := 68) rfl ?_); refine goesL_ (some 14) rfl rfl Try.func68 KR rfl #[.pointer (some ⟨g, 0, none⟩), .int .i64 (t180.length : Int)] rfl AR ?_; (with_reducible refine (spec_l1Below.calls g s0_0 t183 t184 (t180.length : Int) t185 t186 t187 w0 _ ?side1 ?side2 A6.out).mono ?_); (case side1 => exact PI); (case side2 => exact PL); rintro e w30 ⟨rfl, hi, hb, hk⟩; refine ⟨_, rfl, ?_⟩; replace HO182 := Rk (IsS158.apart (show IsS158 w0 _ g s0_0 t183 t184 from PI) (PR HO182) (by decide)) hk; replace HK := kt HK hk; replace HB := ak hb; replace HI0 := ak (hi); (try clear hb); (try clear hb2); (try clear hk); (try clear hi)) | ((with_reducible refine gate_callee (f := 68) rfl ?_); refine goesL_ (some 16) rfl rfl Try.func68 KR rfl #[.pointer (some ⟨g, 0, none⟩), .int .i64 12] rfl AR ?_; (with_reducible refine (spec_l1Below.calls g s0_0 t186 t187 12 t188 t189 t190 w0 _ ?side1 ?side2 A7.out).mono ?_); (case side1 => exact PI); (case side2 => exact PL); rintro e w31 ⟨rfl, hi, hb, hk⟩; refine ⟨_, rfl, ?_⟩; replace HO182 := Rk (IsS158.apart (show IsS158 w0 _ g s0_0 t186 t187 from PI) (PR HO182) (by decide)) hk; replace HK := kt HK hk; replace HB := ak hb; replace HI0 := ak (hi); (try clear hb); (try clear hb2); (try clear hk); (try clear hi)) | ((with_reducible refine gate_dst (N := 31) rfl ?_); refine Kd.R_lit (Kd.int .i64) _ 3 ?hg (N := 31) ?hd (xs := ([(-1), 3, 4] : List Int)) (inner := [.int .i64 (-1), .int .i64 3, .int .i64 4]) (ok := fun _ => True) (okp := fun _ => True) ?hr ?hp (fun _ hk => hk) trivial (Below.refl _ _) (Nat.le_refl _) (by simp) ?_; (case hd => rfl); (case hg => rfl); (case hr => first | (go_simp; done) | (go_simp; rfl)); (case hp => exact (Reps.one (show Kd.M (Kd.int .i64) _ _ _ (-1) [.int .i64 (-1)] from rfl) (Reps.one (show Kd.M (Kd.int .i64) _ _ _ 3 [.int .i64 3] from rfl) (Reps.one (show Kd.M (Kd.int .i64) _ _ _ 4 [.int .i64 4] from rfl) (Reps.none _ _))))); intro v199 w32 ho33 hb hg_ hnew_; clear hg_ hnew_; (first | rw [← Ny198.out] at ho33 | (simp only [Int.reduceToNat] at ho33; rw [← Ny198.out] at ho33)); replace HO182 := Rb HO182 hb; have HO200 := ak (Kd.R_lower ho33 (keep_size (w := w) (g := g) (row := none) PH)); replace HI0 := ak (IsS158.below PI hb); replace HK := ak (KeepBut.trans PH (KeepBut.of_below hb g none) (.inl rfl)); replace HB := bs HB hb; clear hb ho33; obtain ⟨Ao34, co34, eo34⟩ := Kd.R_slice HO200.out; subst eo34) | ((with_reducible refine gate_callee (f := 67) rfl ?_); refine goesL_ (some 32) rfl rfl Try.func67 KR rfl #[.pointer (some ⟨g, 0, none⟩), .slice Ao34 y198.length co34] rfl AR ?_; (with_reducible refine (spec_l1Int.calls g s0_0 t189 t190 _ _ y198 t201 t202 t203 w0 _ ?side1 ?side2 ?side3 ?side4 ?side5 A24.out).mono ?_); (case side1 => exact PI); (case side2 => exact PL); (case side3 => exact CR ((Kd.R_reads' HO200.out).2.2)); (case side4 => exact (Kd.R_reads' HO200.out).2.1); (case side5 => exact far_slice (IsS158.own_ne HI0.out HO200.out (by decide))); rintro e w35 ⟨rfl, hi, hb, hk⟩; refine ⟨_, rfl, ?_⟩; replace HO182 := Rk (IsS158.apart (show IsS158 w0 _ g s0_0 t189 t190 from PI) (PR HO182) (by decide)) hk; replace HO200 := Rk (IsS158.apart (show IsS158 w0 _ g s0_0 t189 t190 from PI) (PR HO200) (by decide)) hk; replace HK := kt HK hk; replace HB := ak hb; replace HI0 := ak (hi); (try clear hb); (try clear hb2); (try clear hk); (try clear hi); have p27 : 0 ≤ (t185 : Int) := of_decide_eq_true (by first | (with_reducible assumption) | assumption); have q27 : (t185 : Int) < ((t180.length : Int) : Int) := of_decide_eq_true (by first | (with_reducible assumption) | assumption); obtain ⟨go27, co27, eo27, gb27, gl27, cl27, HG27⟩ := Kd.R_form HO182.out (by omega); (first | cases eo27 | (injection eo27 with ea_ en_ ec_; (first | subst ea_ | (injection ea_ with ea_; subst ea_)); subst ec_; clear en_)); have GB27 := Aside0.mk gb27; have GG27 := Aside0.mk HG27; clear gb27 gl27 HG27; obtain ⟨ce27, hcl27, hM27, hcc27, hfr27⟩ := Kd.R_elem HO182.out z121 (t185 : Int) p27 q27; obtain rfl := k121_openM hM27; have hx27_0 : w35.cell? ⟨go27, (t185 : Int).toNat * 4, none⟩ = some (.int .i64 ((rd_T121 t180 t185).f0)) := hcc27 0 _ rfl; have hx27_1 : w35.cell? ⟨go27, (t185 : Int).toNat * 4 + 1, none⟩ = some (.int .i64 ((rd_T121 t180 t185).f1)) := hcc27 1 _ rfl; have hx27_2 : w35.cell? ⟨go27, (t185 : Int).toNat * 4 + 2, none⟩ = some (.int .i64 ((rd_T121 t180 t185).f2)) := hcc27 2 _ rfl; have hx27_3 : w35.cell? ⟨go27, (t185 : Int).toNat * 4 + 3, none⟩ = some (.int .i64 ((rd_T121 t180 t185).f3)) := hcc27 3 _ rfl; have hf27_0 : w35.frozen? ⟨go27, (t185 : Int).toNat * 4, none⟩ = false := hfr27 0; have hf27_1 : w35.frozen? ⟨go27, (t185 : Int).toNat * 4 + 1, none⟩ = false := hfr27 1; have hf27_2 : w35.frozen? ⟨go27, (t185 : Int).toNat * 4 + 2, none⟩ = false := hfr27 2; have hf27_3 : w35.frozen? ⟨go27, (t185 : Int).toNat * 4 + 3, none⟩ = false := hfr27 3; clear hcl27 hcc27 hfr27 hM27; replace p27 := eq_true p27; replace q27 := eq_true q27; have HX36 := ak (show Kd.R k121 121 w35 w.heap.size (fun _ => True) (.slice (some ⟨go27, 0, none⟩) t180.length co29) t180 from (PR HO182)); obtain ⟨ce36, hcl36, hM36, hcc36, hfr36⟩ := Kd.R_elem HX36.out z121 (t185 : Int) (of_decide_eq_true (by first | (with_reducible assumption) | assumption)) (by have h_ : (t185 : Int) < ((t180.length : Int) : Int) := of_decide_eq_true (by first | (with_reducible assumption) | assumption); first | exact h_ | (have e_ := (Kd.R_reads' HO182.out).1; omega) | simpa using h_); obtain rfl := k121_openM hM36; have HP36 := Kd.R_seg HX36.out (t185 : Int) (of_decide_eq_true (by first | (with_reducible assumption) | assumption)) (by have h_ : (t185 : Int) < ((t180.length : Int) : Int) := of_decide_eq_true (by first | (with_reducible assumption) | assumption); first | exact h_ | (have e_ := (Kd.R_reads' HO182.out).1; omega) | simpa using h_) (seg := [.int .i64 t201]) (j := 1) hcl36 hcc36 (show 2 ≤ 4 from by decide) (x' := (⟨(rd_T121 t180 t185).f0, t201, (rd_T121 t180 t185).f2, (rd_T121 t180 t185).f3⟩ : S121)) (k121_mkM _ _ _ (⟨(rd_T121 t180 t185).f0, t201, (rd_T121 t180 t185).f2, (rd_T121 t180 t185).f3⟩ : S121) ) (fun _ hk => hk); have hx36_1 := hcc36 1 _ rfl; (try simp only [show (k121).sz = 4 from rfl, Nat.mul_one, Nat.add_zero] at hx36_1); have hf36_1 := hfr36 1; (try simp only [show (k121).sz = 4 from rfl, Nat.mul_one, Nat.add_zero] at hf36_1); clear hcl36 hcc36 hfr36 hM36) | ((with_reducible refine gate_store (t := 3) (p := 34) rfl ?_); refine store_event (t := 3) (p := 34) (v := ?vo_w37) (w1 := (w35.setCell ⟨go27, (t185 : Int).toNat * 4 + 1, none⟩ (.int .i64 t201))) ?hg ?ho ?hn ?hr ?_; (case ho => rfl); (case hg => rfl); (case hn => rfl); (case hr => first | (go_simp; done) | (go_simp; rfl)); intro w37 hw; have hg : w35.grownBy w37 (some go27) := (by rw [hw]; exact HP36.2); have hp_ : Kd.R k121 121 w37 w.heap.size (fun _ => True) (.slice (some ⟨go27, 0, none⟩) t180.length co29) y204 := (by rw [hw, Ny204.out]; exact HP36.1); clear HP36; replace HI0 := ak (IsS158.grown PI hg (IsS158.own_ne HI0.out HO182.out (by decide))); replace HO200 := ak (Kd.R_over' (v := (.slice (some ⟨go27, 0, none⟩) t180.length co29)) (PR HO200) (Kd.R_typed HO182.out) (by decide) hg); replace HB := ak ((by rw [hw]; exact below_set (HB.out) (Nat.le_trans HL.out GB27.out) : Below w0.heap.size w0 w37)); replace HK := ak (KeepBut.trans PH (KeepBut.of_grown hg g) (Kd.R_base2 HO182.out)); replace HO182 := ak (hp_); clear hg hw hp_))
      go_ret
      exact ⟨_, RT, by (with_reducible repeat (first | apply Kd.R_alloc | apply Kd.R_drewN | apply Kd.R_drew)); exact HO182.out, PI, PL, PH⟩
     ·rw [if_neg c26] at H
      exact absurd H (by simp)
    ·rw [if_neg c25] at H
     exact absurd H (by simp)
   ·rw [if_neg c23] at H
    have c23b0 : (t188 == 1) = false := beq_eq_false_iff_ne.mpr c23
    have c23b1 : (t188 != 1) = true := bne_iff_ne.mpr c23
    by_cases c38 : t188 = 2
    ·rw [if_pos c38] at H
     have c38b0 : (t188 == 2) = true := beq_iff_eq.mpr c38
     have c38b1 : (t188 != 2) = false := bne_eq_false_iff_eq.mpr c38
     clear c38
     replace H := Option.bind_eq_some_iff.mp H
     obtain ⟨⟨t205, t206, t207⟩, A390, H⟩ := H
     replace H : (if 0 ≤ t185 then (if t185 < (t180.length : Int) then (some ((t180.set (t185 : Int).toNat (⟨(rd_T121 t180 t185).f0, (rd_T121 t180 t185).f1, t205, (rd_T121 t180 t185).f3⟩ : S121)), t206, t207)) else (none)) else (none)) = some (r1, r2, r3) := H
     have A39 := Aside0.mk A390
     clear A390
     by_cases c40 : 0 ≤ t185
     ·rw [if_pos c40] at H
      have c40b0 : decide (0 ≤ t185) = true := decide_eq_true c40
      clear c40
      by_cases c41 : t185 < (t180.length : Int)
      ·rw [if_pos c41] at H
       have c41b0 : decide (t185 < (t180.length : Int)) = true := decide_eq_true c41
       clear c41
       obtain ⟨y208, hy208⟩ : ∃ y_ : List (S121), y_ = (t180.set (t185 : Int).toNat (⟨(rd_T121 t180 t185).f0, (rd_T121 t180 t185).f1, t205, (rd_T121 t180 t185).f3⟩ : S121)) := ⟨_, rfl⟩
       replace H : (some (y208, t206, t207)) = some (r1, r2, r3) := by first | (rw [hy208]; with_reducible exact H) | (have H2_ := (Option.bind_some _ _).symm.trans H; rw [hy208]; with_reducible exact H2_) | (have H2_ := (Option.bind_some _ _).symm.trans H; with_reducible exact H2_) | with_reducible exact H | (rw [hy208]; exact H) | exact H
       have Ny208 := Aside0.mk hy208
       clear hy208
       simp only [Option.some.injEq, Prod.mk.injEq] at H
       obtain ⟨rfl, rfl, rfl⟩ := H
       go_enter Try.func132, Try.ntmps132
       go_wp2_with (first | ((with_reducible refine gate_callee (f := 157) rfl ?_); refine goesL_ (some 6) rfl rfl Try.func157 KR rfl #[.pointer (some ⟨g, 0, none⟩)] rfl AR ?_; (with_reducible refine (spec_l10Draw.calls k g s0_0 s0_1 s0_2 t180 t183 t184 w0 _ ?side1 ?side2 A2.out).mono ?_); (case side1 => exact PI); (case side2 => exact PL); rintro e w43 ⟨v181, rfl, ho0, hi, hb, hk⟩; refine ⟨_, rfl, ?_⟩; have HO182 := ak (Kd.R_lower ho0 (keep_size (w := w) (g := g) (row := none) PH)); replace HK := kt HK hk; replace HB := ak hb; replace HI0 := ak (hi); (try clear hb); (try clear hb2); (try clear hk); (try clear hi); (try clear ho0); obtain ⟨Ao44, co44, eo44⟩ := Kd.R_slice HO182.out; subst eo44) | ((with_reducible refine gate_callee (f := 68) rfl ?_); refine goesL_ (some 14) rfl rfl Try.func68 KR rfl #[.pointer (some ⟨g, 0, none⟩), .int .i64 (t180.length : Int)] rfl AR ?_; (with_reducible refine (spec_l1Below.calls g s0_0 t183 t184 (t180.length : Int) t185 t186 t187 w0 _ ?side1 ?side2 A6.out).mono ?_); (case side1 => exact PI); (case side2 => exact PL); rintro e w45 ⟨rfl, hi, hb, hk⟩; refine ⟨_, rfl, ?_⟩; replace HO182 := Rk (IsS158.apart (show IsS158 w0 _ g s0_0 t183 t184 from PI) (PR HO182) (by decide)) hk; replace HK := kt HK hk; replace HB := ak hb; replace HI0 := ak (hi); (try clear hb); (try clear hb2); (try clear hk); (try clear hi)) | ((with_reducible refine gate_callee (f := 68) rfl ?_); refine goesL_ (some 16) rfl rfl Try.func68 KR rfl #[.pointer (some ⟨g, 0, none⟩), .int .i64 12] rfl AR ?_; (with_reducible refine (spec_l1Below.calls g s0_0 t186 t187 12 t188 t189 t190 w0 _ ?side1 ?side2 A7.out).mono ?_); (case side1 => exact PI); (case side2 => exact PL); rintro e w46 ⟨rfl, hi, hb, hk⟩; refine ⟨_, rfl, ?_⟩; replace HO182 := Rk (IsS158.apart (show IsS158 w0 _ g s0_0 t186 t187 from PI) (PR HO182) (by decide)) hk; replace HK := kt HK hk; replace HB := ak hb; replace HI0 := ak (hi); (try clear hb); (try clear hb2); (try clear hk); (try clear hi)) | ((with_reducible refine gate_callee (f := 123) rfl ?_); refine goesL_ (some 40) rfl rfl Try.func123 KR rfl #[.pointer (some ⟨g, 0, none⟩)] rfl AR ?_; (with_reducible refine (spec_l4Raw.calls g s0_0 t189 t190 t205 t206 t207 w0 _ ?side1 ?side2 A39.out).mono ?_); (case side1 => exact PI); (case side2 => exact PL); rintro e w47 ⟨rfl, hi, hb, hk⟩; refine ⟨_, rfl, ?_⟩; replace HO182 := Rk (IsS158.apart (show IsS158 w0 _ g s0_0 t189 t190 from PI) (PR HO182) (by decide)) hk; replace HK := kt HK hk; replace HB := ak hb; replace HI0 := ak (hi); (try clear hb); (try clear hb2); (try clear hk); (try clear hi); have p42 : 0 ≤ (t185 : Int) := of_decide_eq_true (by first | (with_reducible assumption) | assumption); have q42 : (t185 : Int) < ((t180.length : Int) : Int) := of_decide_eq_true (by first | (with_reducible assumption) | assumption); obtain ⟨go42, co42, eo42, gb42, gl42, cl42, HG42⟩ := Kd.R_form HO182.out (by omega); (first | cases eo42 | (injection eo42 with ea_ en_ ec_; (first | subst ea_ | (injection ea_ with ea_; subst ea_)); subst ec_; clear en_)); have GB42 := Aside0.mk gb42; have GG42 := Aside0.mk HG42; clear gb42 gl42 HG42; obtain ⟨ce42, hcl42, hM42, hcc42, hfr42⟩ := Kd.R_elem HO182.out z121 (t185 : Int) p42 q42; obtain rfl := k121_openM hM42; have hx42_0 : w47.cell? ⟨go42, (t185 : Int).toNat * 4, none⟩ = some (.int .i64 ((rd_T121 t180 t185).f0)) := hcc42 0 _ rfl; have hx42_1 : w47.cell? ⟨go42, (t185 : Int).toNat * 4 + 1, none⟩ = some (.int .i64 ((rd_T121 t180 t185).f1)) := hcc42 1 _ rfl; have hx42_2 : w47.cell? ⟨go42, (t185 : Int).toNat * 4 + 2, none⟩ = some (.int .i64 ((rd_T121 t180 t185).f2)) := hcc42 2 _ rfl; have hx42_3 : w47.cell? ⟨go42, (t185 : Int).toNat * 4 + 3, none⟩ = some (.int .i64 ((rd_T121 t180 t185).f3)) := hcc42 3 _ rfl; have hf42_0 : w47.frozen? ⟨go42, (t185 : Int).toNat * 4, none⟩ = false := hfr42 0; have hf42_1 : w47.frozen? ⟨go42, (t185 : Int).toNat * 4 + 1, none⟩ = false := hfr42 1; have hf42_2 : w47.frozen? ⟨go42, (t185 : Int).toNat * 4 + 2, none⟩ = false := hfr42 2; have hf42_3 : w47.frozen? ⟨go42, (t185 : Int).toNat * 4 + 3, none⟩ = false := hfr42 3; clear hcl42 hcc42 hfr42 hM42; replace p42 := eq_true p42; replace q42 := eq_true q42; have HX48 := ak (show Kd.R k121 121 w47 w.heap.size (fun _ => True) (.slice (some ⟨go42, 0, none⟩) t180.length co44) t180 from (PR HO182)); obtain ⟨ce48, hcl48, hM48, hcc48, hfr48⟩ := Kd.R_elem HX48.out z121 (t185 : Int) (of_decide_eq_true (by first | (with_reducible assumption) | assumption)) (by have h_ : (t185 : Int) < ((t180.length : Int) : Int) := of_decide_eq_true (by first | (with_reducible assumption) | assumption); first | exact h_ | (have e_ := (Kd.R_reads' HO182.out).1; omega) | simpa using h_); obtain rfl := k121_openM hM48; have HP48 := Kd.R_seg HX48.out (t185 : Int) (of_decide_eq_true (by first | (with_reducible assumption) | assumption)) (by have h_ : (t185 : Int) < ((t180.length : Int) : Int) := of_decide_eq_true (by first | (with_reducible assumption) | assumption); first | exact h_ | (have e_ := (Kd.R_reads' HO182.out).1; omega) | simpa using h_) (seg := [.int .i64 t205]) (j := 2) hcl48 hcc48 (show 3 ≤ 4 from by decide) (x' := (⟨(rd_T121 t180 t185).f0, (rd_T121 t180 t185).f1, t205, (rd_T121 t180 t185).f3⟩ : S121)) (k121_mkM _ _ _ (⟨(rd_T121 t180 t185).f0, (rd_T121 t180 t185).f1, t205, (rd_T121 t180 t185).f3⟩ : S121) ) (fun _ hk => hk); have hx48_2 := hcc48 2 _ rfl; (try simp only [show (k121).sz = 4 from rfl, Nat.mul_one, Nat.add_zero] at hx48_2); have hf48_2 := hfr48 2; (try simp only [show (k121).sz = 4 from rfl, Nat.mul_one, Nat.add_zero] at hf48_2); clear hcl48 hcc48 hfr48 hM48) | ((with_reducible refine gate_store (t := 3) (p := 42) rfl ?_); refine store_event (t := 3) (p := 42) (v := ?vo_w49) (w1 := (w47.setCell ⟨go42, (t185 : Int).toNat * 4 + 2, none⟩ (.int .i64 t205))) ?hg ?ho ?hn ?hr ?_; (case ho => rfl); (case hg => rfl); (case hn => rfl); (case hr => first | (go_simp; done) | (go_simp; rfl)); intro w49 hw; have hg : w47.grownBy w49 (some go42) := (by rw [hw]; exact HP48.2); have hp_ : Kd.R k121 121 w49 w.heap.size (fun _ => True) (.slice (some ⟨go42, 0, none⟩) t180.length co44) y208 := (by rw [hw, Ny208.out]; exact HP48.1); clear HP48; replace HI0 := ak (IsS158.grown PI hg (IsS158.own_ne HI0.out HO182.out (by decide))); replace HB := ak ((by rw [hw]; exact below_set (HB.out) (Nat.le_trans HL.out GB42.out) : Below w0.heap.size w0 w49)); replace HK := ak (KeepBut.trans PH (KeepBut.of_grown hg g) (Kd.R_base2 HO182.out)); replace HO182 := ak (hp_); clear hg hw hp_))
       go_ret
       exact ⟨_, RT, by (with_reducible repeat (first | apply Kd.R_alloc | apply Kd.R_drewN | apply Kd.R_drew)); exact HO182.out, PI, PL, PH⟩
      ·rw [if_neg c41] at H
       exact absurd H (by simp)
     ·rw [if_neg c40] at H
      exact absurd H (by simp)
    ·rw [if_neg c38] at H
     have c38b0 : (t188 == 2) = false := beq_eq_false_iff_ne.mpr c38
     have c38b1 : (t188 != 2) = true := bne_iff_ne.mpr c38
     by_cases c50 : t188 = 3
     ·rw [if_pos c50] at H
      have c50b0 : (t188 == 3) = true := beq_iff_eq.mpr c50
      have c50b1 : (t188 != 3) = false := bne_eq_false_iff_eq.mpr c50
      clear c50
      replace H := Option.bind_eq_some_iff.mp H
      obtain ⟨⟨t209, t210, t211⟩, A510, H⟩ := H
      replace H : (if 0 ≤ t185 then (if t185 < (t180.length : Int) then (some ((t180.set (t185 : Int).toNat (⟨(rd_T121 t180 t185).f0, (rd_T121 t180 t185).f1, (rd_T121 t180 t185).f2, t209⟩ : S121)), t210, t211)) else (none)) else (none)) = some (r1, r2, r3) := H
      have A51 := Aside0.mk A510
      clear A510
      by_cases c52 : 0 ≤ t185
      ·rw [if_pos c52] at H
       have c52b0 : decide (0 ≤ t185) = true := decide_eq_true c52
       clear c52
       by_cases c53 : t185 < (t180.length : Int)
       ·rw [if_pos c53] at H
        have c53b0 : decide (t185 < (t180.length : Int)) = true := decide_eq_true c53
        clear c53
        obtain ⟨y212, hy212⟩ : ∃ y_ : List (S121), y_ = (t180.set (t185 : Int).toNat (⟨(rd_T121 t180 t185).f0, (rd_T121 t180 t185).f1, (rd_T121 t180 t185).f2, t209⟩ : S121)) := ⟨_, rfl⟩
        replace H : (some (y212, t210, t211)) = some (r1, r2, r3) := by first | (rw [hy212]; with_reducible exact H) | (have H2_ := (Option.bind_some _ _).symm.trans H; rw [hy212]; with_reducible exact H2_) | (have H2_ := (Option.bind_some _ _).symm.trans H; with_reducible exact H2_) | with_reducible exact H | (rw [hy212]; exact H) | exact H
        have Ny212 := Aside0.mk hy212
        clear hy212
        simp only [Option.some.injEq, Prod.mk.injEq] at H
        obtain ⟨rfl, rfl, rfl⟩ := H
        go_enter Try.func132, Try.ntmps132
        go_wp2_with (first | ((with_reducible refine gate_callee (f := 157) rfl ?_); refine goesL_ (some 6) rfl rfl Try.func157 KR rfl #[.pointer (some ⟨g, 0, none⟩)] rfl AR ?_; (with_reducible refine (spec_l10Draw.calls k g s0_0 s0_1 s0_2 t180 t183 t184 w0 _ ?side1 ?side2 A2.out).mono ?_); (case side1 => exact PI); (case side2 => exact PL); rintro e w55 ⟨v181, rfl, ho0, hi, hb, hk⟩; refine ⟨_, rfl, ?_⟩; have HO182 := ak (Kd.R_lower ho0 (keep_size (w := w) (g := g) (row := none) PH)); replace HK := kt HK hk; replace HB := ak hb; replace HI0 := ak (hi); (try clear hb); (try clear hb2); (try clear hk); (try clear hi); (try clear ho0); obtain ⟨Ao56, co56, eo56⟩ := Kd.R_slice HO182.out; subst eo56) | ((with_reducible refine gate_callee (f := 68) rfl ?_); refine goesL_ (some 14) rfl rfl Try.func68 KR rfl #[.pointer (some ⟨g, 0, none⟩), .int .i64 (t180.length : Int)] rfl AR ?_; (with_reducible refine (spec_l1Below.calls g s0_0 t183 t184 (t180.length : Int) t185 t186 t187 w0 _ ?side1 ?side2 A6.out).mono ?_); (case side1 => exact PI); (case side2 => exact PL); rintro e w57 ⟨rfl, hi, hb, hk⟩; refine ⟨_, rfl, ?_⟩; replace HO182 := Rk (IsS158.apart (show IsS158 w0 _ g s0_0 t183 t184 from PI) (PR HO182) (by decide)) hk; replace HK := kt HK hk; replace HB := ak hb; replace HI0 := ak (hi); (try clear hb); (try clear hb2); (try clear hk); (try clear hi)) | ((with_reducible refine gate_callee (f := 68) rfl ?_); refine goesL_ (some 16) rfl rfl Try.func68 KR rfl #[.pointer (some ⟨g, 0, none⟩), .int .i64 12] rfl AR ?_; (with_reducible refine (spec_l1Below.calls g s0_0 t186 t187 12 t188 t189 t190 w0 _ ?side1 ?side2 A7.out).mono ?_); (case side1 => exact PI); (case side2 => exact PL); rintro e w58 ⟨rfl, hi, hb, hk⟩; refine ⟨_, rfl, ?_⟩; replace HO182 := Rk (IsS158.apart (show IsS158 w0 _ g s0_0 t186 t187 from PI) (PR HO182) (by decide)) hk; replace HK := kt HK hk; replace HB := ak hb; replace HI0 := ak (hi); (try clear hb); (try clear hb2); (try clear hk); (try clear hi)) | ((with_reducible refine gate_callee (f := 123) rfl ?_); refine goesL_ (some 48) rfl rfl Try.func123 KR rfl #[.pointer (some ⟨g, 0, none⟩)] rfl AR ?_; (with_reducible refine (spec_l4Raw.calls g s0_0 t189 t190 t209 t210 t211 w0 _ ?side1 ?side2 A51.out).mono ?_); (case side1 => exact PI); (case side2 => exact PL); rintro e w59 ⟨rfl, hi, hb, hk⟩; refine ⟨_, rfl, ?_⟩; replace HO182 := Rk (IsS158.apart (show IsS158 w0 _ g s0_0 t189 t190 from PI) (PR HO182) (by decide)) hk; replace HK := kt HK hk; replace HB := ak hb; replace HI0 := ak (hi); (try clear hb); (try clear hb2); (try clear hk); (try clear hi); have p54 : 0 ≤ (t185 : Int) := of_decide_eq_true (by first | (with_reducible assumption) | assumption); have q54 : (t185 : Int) < ((t180.length : Int) : Int) := of_decide_eq_true (by first | (with_reducible assumption) | assumption); obtain ⟨go54, co54, eo54, gb54, gl54, cl54, HG54⟩ := Kd.R_form HO182.out (by omega); (first | cases eo54 | (injection eo54 with ea_ en_ ec_; (first | subst ea_ | (injection ea_ with ea_; subst ea_)); subst ec_; clear en_)); have GB54 := Aside0.mk gb54; have GG54 := Aside0.mk HG54; clear gb54 gl54 HG54; obtain ⟨ce54, hcl54, hM54, hcc54, hfr54⟩ := Kd.R_elem HO182.out z121 (t185 : Int) p54 q54; obtain rfl := k121_openM hM54; have hx54_0 : w59.cell? ⟨go54, (t185 : Int).toNat * 4, none⟩ = some (.int .i64 ((rd_T121 t180 t185).f0)) := hcc54 0 _ rfl; have hx54_1 : w59.cell? ⟨go54, (t185 : Int).toNat * 4 + 1, none⟩ = some (.int .i64 ((rd_T121 t180 t185).f1)) := hcc54 1 _ rfl; have hx54_2 : w59.cell? ⟨go54, (t185 : Int).toNat * 4 + 2, none⟩ = some (.int .i64 ((rd_T121 t180 t185).f2)) := hcc54 2 _ rfl; have hx54_3 : w59.cell? ⟨go54, (t185 : Int).toNat * 4 + 3, none⟩ = some (.int .i64 ((rd_T121 t180 t185).f3)) := hcc54 3 _ rfl; have hf54_0 : w59.frozen? ⟨go54, (t185 : Int).toNat * 4, none⟩ = false := hfr54 0; have hf54_1 : w59.frozen? ⟨go54, (t185 : Int).toNat * 4 + 1, none⟩ = false := hfr54 1; have hf54_2 : w59.frozen? ⟨go54, (t185 : Int).toNat * 4 + 2, none⟩ = false := hfr54 2; have hf54_3 : w59.frozen? ⟨go54, (t185 : Int).toNat * 4 + 3, none⟩ = false := hfr54 3; clear hcl54 hcc54 hfr54 hM54; replace p54 := eq_true p54; replace q54 := eq_true q54; have HX60 := ak (show Kd.R k121 121 w59 w.heap.size (fun _ => True) (.slice (some ⟨go54, 0, none⟩) t180.length co56) t180 from (PR HO182)); obtain ⟨ce60, hcl60, hM60, hcc60, hfr60⟩ := Kd.R_elem HX60.out z121 (t185 : Int) (of_decide_eq_true (by first | (with_reducible assumption) | assumption)) (by have h_ : (t185 : Int) < ((t180.length : Int) : Int) := of_decide_eq_true (by first | (with_reducible assumption) | assumption); first | exact h_ | (have e_ := (Kd.R_reads' HO182.out).1; omega) | simpa using h_); obtain rfl := k121_openM hM60; have HP60 := Kd.R_seg HX60.out (t185 : Int) (of_decide_eq_true (by first | (with_reducible assumption) | assumption)) (by have h_ : (t185 : Int) < ((t180.length : Int) : Int) := of_decide_eq_true (by first | (with_reducible assumption) | assumption); first | exact h_ | (have e_ := (Kd.R_reads' HO182.out).1; omega) | simpa using h_) (seg := [.int .i64 t209]) (j := 3) hcl60 hcc60 (show 4 ≤ 4 from by decide) (x' := (⟨(rd_T121 t180 t185).f0, (rd_T121 t180 t185).f1, (rd_T121 t180 t185).f2, t209⟩ : S121)) (k121_mkM _ _ _ (⟨(rd_T121 t180 t185).f0, (rd_T121 t180 t185).f1, (rd_T121 t180 t185).f2, t209⟩ : S121) ) (fun _ hk => hk); have hx60_3 := hcc60 3 _ rfl; (try simp only [show (k121).sz = 4 from rfl, Nat.mul_one, Nat.add_zero] at hx60_3); have hf60_3 := hfr60 3; (try simp only [show (k121).sz = 4 from rfl, Nat.mul_one, Nat.add_zero] at hf60_3); clear hcl60 hcc60 hfr60 hM60) | ((with_reducible refine gate_store (t := 3) (p := 50) rfl ?_); refine store_event (t := 3) (p := 50) (v := ?vo_w61) (w1 := (w59.setCell ⟨go54, (t185 : Int).toNat * 4 + 3, none⟩ (.int .i64 t209))) ?hg ?ho ?hn ?hr ?_; (case ho => rfl); (case hg => rfl); (case hn => rfl); (case hr => first | (go_simp; done) | (go_simp; rfl)); intro w61 hw; have hg : w59.grownBy w61 (some go54) := (by rw [hw]; exact HP60.2); have hp_ : Kd.R k121 121 w61 w.heap.size (fun _ => True) (.slice (some ⟨go54, 0, none⟩) t180.length co56) y212 := (by rw [hw, Ny212.out]; exact HP60.1); clear HP60; replace HI0 := ak (IsS158.grown PI hg (IsS158.own_ne HI0.out HO182.out (by decide))); replace HB := ak ((by rw [hw]; exact below_set (HB.out) (Nat.le_trans HL.out GB54.out) : Below w0.heap.size w0 w61)); replace HK := ak (KeepBut.trans PH (KeepBut.of_grown hg g) (Kd.R_base2 HO182.out)); replace HO182 := ak (hp_); clear hg hw hp_))
        go_ret
        exact ⟨_, RT, by (with_reducible repeat (first | apply Kd.R_alloc | apply Kd.R_drewN | apply Kd.R_drew)); exact HO182.out, PI, PL, PH⟩
       ·rw [if_neg c53] at H
        exact absurd H (by simp)
      ·rw [if_neg c52] at H
       exact absurd H (by simp)
     ·rw [if_neg c50] at H
      have c50b0 : (t188 == 3) = false := beq_eq_false_iff_ne.mpr c50
      have c50b1 : (t188 != 3) = true := bne_iff_ne.mpr c50
      by_cases c62 : t188 = 4
      ·rw [if_pos c62] at H
       have c62b0 : (t188 == 4) = true := beq_iff_eq.mpr c62
       have c62b1 : (t188 != 4) = false := bne_eq_false_iff_eq.mpr c62
       clear c62
       have H' := Aside0.mk H
       clear H
       go_enter Try.func132, Try.ntmps132
       go_wp2_with (first | ((with_reducible refine gate_callee (f := 157) rfl ?_); refine goesL_ (some 6) rfl rfl Try.func157 KR rfl #[.pointer (some ⟨g, 0, none⟩)] rfl AR ?_; (with_reducible refine (spec_l10Draw.calls k g s0_0 s0_1 s0_2 t180 t183 t184 w0 _ ?side1 ?side2 A2.out).mono ?_); (case side1 => exact PI); (case side2 => exact PL); rintro e w63 ⟨v181, rfl, ho0, hi, hb, hk⟩; refine ⟨_, rfl, ?_⟩; have HO182 := ak (Kd.R_lower ho0 (keep_size (w := w) (g := g) (row := none) PH)); replace HK := kt HK hk; replace HB := ak hb; replace HI0 := ak (hi); (try clear hb); (try clear hb2); (try clear hk); (try clear hi); (try clear ho0); obtain ⟨Ao64, co64, eo64⟩ := Kd.R_slice HO182.out; subst eo64) | ((with_reducible refine gate_callee (f := 68) rfl ?_); refine goesL_ (some 14) rfl rfl Try.func68 KR rfl #[.pointer (some ⟨g, 0, none⟩), .int .i64 (t180.length : Int)] rfl AR ?_; (with_reducible refine (spec_l1Below.calls g s0_0 t183 t184 (t180.length : Int) t185 t186 t187 w0 _ ?side1 ?side2 A6.out).mono ?_); (case side1 => exact PI); (case side2 => exact PL); rintro e w65 ⟨rfl, hi, hb, hk⟩; refine ⟨_, rfl, ?_⟩; replace HO182 := Rk (IsS158.apart (show IsS158 w0 _ g s0_0 t183 t184 from PI) (PR HO182) (by decide)) hk; replace HK := kt HK hk; replace HB := ak hb; replace HI0 := ak (hi); (try clear hb); (try clear hb2); (try clear hk); (try clear hi)) | ((with_reducible refine gate_callee (f := 68) rfl ?_); refine goesL_ (some 16) rfl rfl Try.func68 KR rfl #[.pointer (some ⟨g, 0, none⟩), .int .i64 12] rfl AR ?_; (with_reducible refine (spec_l1Below.calls g s0_0 t186 t187 12 t188 t189 t190 w0 _ ?side1 ?side2 A7.out).mono ?_); (case side1 => exact PI); (case side2 => exact PL); rintro e w66 ⟨rfl, hi, hb, hk⟩; refine ⟨_, rfl, ?_⟩; replace HO182 := Rk (IsS158.apart (show IsS158 w0 _ g s0_0 t186 t187 from PI) (PR HO182) (by decide)) hk; replace HK := kt HK hk; replace HB := ak hb; replace HI0 := ak (hi); (try clear hb); (try clear hb2); (try clear hk); (try clear hi)))
       go_loopg [3] k (fun kq v3 w' => ∃ (x3_1 : List (S121)), Aside0 (spec_l10Any.l0 kq x3_1 s0_0 t189 t190 = some (r1, r2, r3)) ∧ Aside0 (kq ≤ k) ∧ Aside0 (Kd.R k121 121 w' w.heap.size (fun _ => True) v3 x3_1) ∧ Aside0 (IsS158 w0 w' g s0_0 t189 t190) ∧ Aside0 (KeepBut w w' g none) ∧ Aside0 (Below w0.heap.size w0 w'))
       case atStart => exact ⟨(t180), H', ⟨Nat.le_refl _⟩, ⟨PR HO182⟩, ⟨PI⟩, ⟨PH⟩, ⟨PL⟩⟩
       case round =>
        clear H'
        (try clear c1); (try clear p1); (try clear q1); (try clear hx1); (try clear hf1); (try clear c2); (try clear p2); (try clear q2); (try clear hx2); (try clear hf2); (try clear c3); (try clear c3b0); (try clear c3b1); (try clear c3b2); (try clear hx3); (try clear hf3); (try clear c4); (try clear p4); (try clear q4); (try clear hx4); (try clear hf4); (try clear c5); (try clear p5); (try clear q5); (try clear hx5); (try clear hf5); (try clear c6); (try clear hx6); (try clear hf6); (try clear c8); (try clear c8b0); (try clear c8b1); (try clear c10); (try clear c10b0); (try clear c11); (try clear c11b0); (try clear c12); (try clear p12); (try clear q12); (try clear hx12); (try clear hf12); (try clear c13); (try clear c15); (try clear c21); (try clear hx21); (try clear hf21); (try clear c23); (try clear c23b0); (try clear c23b1); (try clear c25); (try clear c25b0); (try clear c26); (try clear c26b0); (try clear c27); (try clear p27); (try clear q27); (try clear hx27); (try clear hf27); (try clear c36); (try clear hx36); (try clear hf36); (try clear c38); (try clear c38b0); (try clear c38b1); (try clear c40); (try clear c40b0); (try clear c41); (try clear c41b0); (try clear c42); (try clear p42); (try clear q42); (try clear hx42); (try clear hf42); (try clear c48); (try clear hx48); (try clear hf48); (try clear c50); (try clear c50b0); (try clear c50b1); (try clear c52); (try clear c52b0); (try clear c53); (try clear c53b0); (try clear c54); (try clear p54); (try clear q54); (try clear hx54); (try clear hf54); (try clear c60); (try clear hx60); (try clear hf60); (try clear c62); (try clear c62b0); (try clear c62b1); (try clear hx12_0); (try clear hx12_1); (try clear hx12_2); (try clear hx12_3); (try clear hx21_0); (try clear hx27_0); (try clear hx27_1); (try clear hx27_2); (try clear hx27_3); (try clear hx36_1); (try clear hx42_0); (try clear hx42_1); (try clear hx42_2); (try clear hx42_3); (try clear hx48_2); (try clear hx54_0); (try clear hx54_1); (try clear hx54_2); (try clear hx54_3); (try clear hx60_3); (try clear p12); (try clear p27); (try clear p42); (try clear p54); (try clear q12); (try clear q27); (try clear q42); (try clear q54)
        obtain ⟨x3_1, HA, HK1, HO_3, HI0, HK, HB⟩ := hrel
        cases gk with
        | zero => exact absurd HA.out (by simp [spec_l10Any.l0])
        | succ k1 =>
         have H := HA.out
         clear HA
         simp only [spec_l10Any.l0] at H
         by_cases c67 : (x3_1.length : Int) < 17
         ·rw [if_pos c67] at H
          have c67b0 : decide ((x3_1.length : Int) < 17) = true := decide_eq_true c67
          have c67b1 : decide (x3_1.length < 17) = true := decide_eq_true (by omega)
          clear c67
          by_cases c68 : x3_1.length < 4398046511104
          ·rw [if_pos c68] at H
           have LMc68 := Aside0.mk c68
           clear c68
           obtain ⟨y213, hy213⟩ : ∃ y_ : List (S121), y_ = (x3_1 ++ [(⟨2, 0, 0, 0⟩ : S121)]) := ⟨_, rfl⟩
           replace H : (spec_l10Any.l0 k1 y213 s0_0 t189 t190) = some (r1, r2, r3) := by first | (rw [hy213]; with_reducible exact H) | (have H2_ := (Option.bind_some _ _).symm.trans H; rw [hy213]; with_reducible exact H2_) | (have H2_ := (Option.bind_some _ _).symm.trans H; with_reducible exact H2_) | with_reducible exact H | (rw [hy213]; exact H) | exact H
           have Ny213 := Aside0.mk hy213
           clear hy213
           have H' := Aside0.mk H
           clear H
           obtain ⟨Ao69, co69, eo69⟩ := Kd.R_slice HO_3.out
           subst eo69
           go_wp2_with (first | ((with_reducible refine gate_builtin (b := .append) (xs := #[.tmp 56, .tmp 58]) rfl ?_); at_builtin; refine Kd.R_append k121 w.heap.size rfl (.tmp 56) (.tmp 58) 43 121 (.agg #[(.int .i64 0), (.int .i64 0), (.int .i64 0), (.int .i64 0)]) 32 rfl Try.underlying43 info121 rfl (by decide) (by omega) (.slice Ao69 x3_1.length co69) x3_1 (⟨2, 0, 0, 0⟩ : S121) [.int .i64 2, .int .i64 0, .int .i64 0, .int .i64 0] (fun _ => True) (fun _ => False) rfl rfl ?aP (fun _ hk => hk.elim) ?aF ?aO (Below.refl _ _) ?aS ?aL ?_; (case aP => exact k121_mkM _ _ _ (⟨2, 0, 0, 0⟩ : S121)); (case aF => exact (fun _ _ => trivial)); (case aO => exact (PR HO_3)); (case aS => exact (keep_size (w := w) (g := g) (row := none) PH)); (case aL => have := LMc68.out; omega); intro v214 w70 ho hb hg hat; rw [← Ny213.out] at ho; replace HI0 := ak (IsS158.grown PI hg (IsS158.own_ne HI0.out HO_3.out (by decide))); replace HB := ak (below_weaken PL HL.out hb); replace HK := ak (KeepBut.trans PH (KeepBut.of_grown hg g) (Kd.R_base2 HO_3.out)); have HO215 := ak (ho); clear HO_3; clear ho hb hg hat))
           go_roundg k1
           case measure => have := HK1.out; omega
           case rel => exact ⟨(y213), H', ⟨by have := HK1.out; omega⟩, ⟨PR HO215⟩, ⟨PI⟩, ⟨PH⟩, ⟨PL⟩⟩
          ·rw [if_neg c68] at H
           exact absurd H (by simp)
         ·rw [if_neg c67] at H
          have c67b0 : decide ((x3_1.length : Int) < 17) = false := decide_eq_false c67
          have c67b1 : decide (x3_1.length < 17) = false := decide_eq_false (by omega)
          clear c67
          simp only [Option.some.injEq, Prod.mk.injEq] at H
          obtain ⟨rfl, rfl, rfl⟩ := H
          obtain ⟨Ao71, co71, eo71⟩ := Kd.R_slice HO_3.out
          subst eo71
          go_wp2
          go_ret
          exact ⟨_, RT, by (with_reducible repeat (first | apply Kd.R_alloc | apply Kd.R_drewN | apply Kd.R_drew)); exact HO_3.out, PI, PL, PH⟩
      ·rw [if_neg c62] at H
       have c62b0 : (t188 == 4) = false := beq_eq_false_iff_ne.mpr c62
       have c62b1 : (t188 != 4) = true := bne_iff_ne.mpr c62
       simp only [Option.some.injEq, Prod.mk.injEq] at H
       obtain ⟨rfl, rfl, rfl⟩ := H
       go_enter Try.func132, Try.ntmps132
       go_wp2_with (first | ((with_reducible refine gate_callee (f := 157) rfl ?_); refine goesL_ (some 6) rfl rfl Try.func157 KR rfl #[.pointer (some ⟨g, 0, none⟩)] rfl AR ?_; (with_reducible refine (spec_l10Draw.calls k g s0_0 s0_1 s0_2 t180 t183 t184 w0 _ ?side1 ?side2 A2.out).mono ?_); (case side1 => exact PI); (case side2 => exact PL); rintro e w72 ⟨v181, rfl, ho0, hi, hb, hk⟩; refine ⟨_, rfl, ?_⟩; have HO182 := ak (Kd.R_lower ho0 (keep_size (w := w) (g := g) (row := none) PH)); replace HK := kt HK hk; replace HB := ak hb; replace HI0 := ak (hi); (try clear hb); (try clear hb2); (try clear hk); (try clear hi); (try clear ho0); obtain ⟨Ao73, co73, eo73⟩ := Kd.R_slice HO182.out; subst eo73) | ((with_reducible refine gate_callee (f := 68) rfl ?_); refine goesL_ (some 14) rfl rfl Try.func68 KR rfl #[.pointer (some ⟨g, 0, none⟩), .int .i64 (t180.length : Int)] rfl AR ?_; (with_reducible refine (spec_l1Below.calls g s0_0 t183 t184 (t180.length : Int) t185 t186 t187 w0 _ ?side1 ?side2 A6.out).mono ?_); (case side1 => exact PI); (case side2 => exact PL); rintro e w74 ⟨rfl, hi, hb, hk⟩; refine ⟨_, rfl, ?_⟩; replace HO182 := Rk (IsS158.apart (show IsS158 w0 _ g s0_0 t183 t184 from PI) (PR HO182) (by decide)) hk; replace HK := kt HK hk; replace HB := ak hb; replace HI0 := ak (hi); (try clear hb); (try clear hb2); (try clear hk); (try clear hi)) | ((with_reducible refine gate_callee (f := 68) rfl ?_); refine goesL_ (some 16) rfl rfl Try.func68 KR rfl #[.pointer (some ⟨g, 0, none⟩), .int .i64 12] rfl AR ?_; (with_reducible refine (spec_l1Below.calls g s0_0 t186 t187 12 t188 t189 t190 w0 _ ?side1 ?side2 A7.out).mono ?_); (case side1 => exact PI); (case side2 => exact PL); rintro e w75 ⟨rfl, hi, hb, hk⟩; refine ⟨_, rfl, ?_⟩; replace HO182 := Rk (IsS158.apart (show IsS158 w0 _ g s0_0 t186 t187 from PI) (PR HO182) (by decide)) hk; replace HK := kt HK hk; replace HB := ak hb; replace HI0 := ak (hi); (try clear hb); (try clear hb2); (try clear hk); (try clear hi)))
       go_ret
       exact ⟨_, RT, by (with_reducible repeat (first | apply Kd.R_alloc | apply Kd.R_drewN | apply Kd.R_drew)); exact HO182.out, PI, PL, PH⟩

/-! ### spec_l11Zeros: function 168 -/
def spec_l11Zeros.l0 : Nat → Int → List Int → Int → Option (List Int)
  | 0, _, _, _ => none
  | k + 1, x0, x3, x4 => if x4 < x0 then (if x3.length < 17592186044416 then (spec_l11Zeros.l0 k x0 (x3 ++ [0]) (wrap64 (x4 + 1))) else (none)) else (some x3)
def spec_l11Zeros.f (k : Nat) (a0 : Int) : Option (List Int) := spec_l11Zeros.l0 k a0 (([] : List Int)) 0
set_option maxHeartbeats 8000000 in
set_option maxRecDepth 100000 in
theorem spec_l11Zeros.calls (k : Nat) (a0 : Int) (r : List Int) (w : World) (h : spec_l11Zeros.f k a0 = some r) :
  Calls Try.prog 168 #[.int .i64 a0] w fun e w' => ∃ v0_ : Value, e = .returned (v0_) ∧ Kd.R (Kd.int .i64) 3 w' w.heap.size (fun _ => True) v0_ r ∧ Below w.heap.size w w' := by
 have HB := ak (Below.refl w.heap.size w)
 have H : (spec_l11Zeros.l0 k a0 (([] : List Int)) 0) = some r := h
 clear h
 obtain ⟨y216, hy216⟩ : ∃ y_ : List Int, y_ = (([] : List Int)) := ⟨_, rfl⟩
 replace H : (spec_l11Zeros.l0 k a0 y216 0) = some r := by first | (rw [hy216]; with_reducible exact H) | (have H2_ := (Option.bind_some _ _).symm.trans H; rw [hy216]; with_reducible exact H2_) | (have H2_ := (Option.bind_some _ _).symm.trans H; with_reducible exact H2_) | with_reducible exact H | (rw [hy216]; exact H) | exact H
 have Ny216 := Aside0.mk hy216
 clear hy216
 have H' := Aside0.mk H
 clear H
 go_enter Try.func168, Try.ntmps168
 go_wp2_with (first | ((with_reducible refine gate_dst (N := 5) rfl ?_); refine Kd.R_lit (Kd.int .i64) _ 3 ?hg (N := 5) ?hd (xs := ([] : List Int)) (inner := []) (ok := fun _ => True) (okp := fun _ => True) ?hr ?hp (fun _ hk => hk) trivial (Below.refl _ _) (Nat.le_refl _) (by simp) ?_; (case hd => rfl); (case hg => rfl); (case hr => first | (go_simp; done) | (go_simp; rfl)); (case hp => exact (Reps.none _ _)); intro v217 w2 ho3 hb hg_ hnew_; clear hg_ hnew_; (first | rw [← Ny216.out] at ho3 | (simp only [Int.reduceToNat] at ho3; rw [← Ny216.out] at ho3)); have HO218 := Rn0 ho3 HB; replace HB := bs HB hb; clear hb ho3))
 go_loopg [3, 4] k (fun kq v3 v4 w' => ∃ (x3_1 : List Int) (x4_1 : Int), v4 = .int .i64 x4_1 ∧ Aside0 (spec_l11Zeros.l0 kq a0 x3_1 x4_1 = some r) ∧ Aside0 (kq ≤ k) ∧ Aside0 (Kd.R (Kd.int .i64) 3 w' w.heap.size (fun _ => True) v3 x3_1) ∧ Aside0 (Below w.heap.size w w'))
 case atStart => exact ⟨(y216), (0), (by first | rfl | (simp; done) | (simp [*]; done)), H', ⟨Nat.le_refl _⟩, ⟨PR HO218⟩, ⟨PB⟩⟩
 case round =>
  clear H'
  (try clear c1); (try clear p2)
  obtain ⟨x3_1, x4_1, rfl, HA, HK1, HO_3, HB⟩ := hrel
  cases gk with
  | zero => exact absurd HA.out (by simp [spec_l11Zeros.l0])
  | succ k1 =>
   have H := HA.out
   clear HA
   simp only [spec_l11Zeros.l0] at H
   by_cases c4 : x4_1 < a0
   ·rw [if_pos c4] at H
    have c4b0 : decide (x4_1 < a0) = true := decide_eq_true c4
    clear c4
    by_cases c5 : x3_1.length < 17592186044416
    ·rw [if_pos c5] at H
     have LMc5 := Aside0.mk c5
     clear c5
     obtain ⟨y219, hy219⟩ : ∃ y_ : List Int, y_ = (x3_1 ++ [0]) := ⟨_, rfl⟩
     replace H : (spec_l11Zeros.l0 k1 a0 y219 (wrap64 (x4_1 + 1))) = some r := by first | (rw [hy219]; with_reducible exact H) | (have H2_ := (Option.bind_some _ _).symm.trans H; rw [hy219]; with_reducible exact H2_) | (have H2_ := (Option.bind_some _ _).symm.trans H; with_reducible exact H2_) | with_reducible exact H | (rw [hy219]; exact H) | exact H
     have Ny219 := Aside0.mk hy219
     clear hy219
     have H' := Aside0.mk H
     clear H
     go_wp2_with (first | ((with_reducible refine gate_builtin (b := .append) (xs := #[.tmp 11, .tmp 12]) rfl ?_); at_builtin; refine Kd.R_append (Kd.int .i64) (w0 := w) w.heap.size rfl (.tmp 11) (.tmp 12) 36 3 (.int .i64 0) 8 rfl Try.underlying36 info3 rfl (by decide) (by omega) u3 x3_1 0 [.int .i64 0] (fun _ => True) (fun _ => False) rfl rfl ?aP (fun _ hk => hk.elim) ?aF ?aO ?aB ?aS ?aL ?_; (case aP => exact rfl); (case aB => exact PB); (case aF => exact (fun _ _ => trivial)); (case aO => exact (PR HO_3)); (case aS => exact (below_size PB)); (case aL => have := LMc5.out; omega); intro v220 w6 ho hb hg hat; rw [← Ny219.out] at ho; replace HB := ak hb; have HO221 := ak (ho); clear HO_3; clear ho hb hg hat))
     go_roundg k1
     case measure => have := HK1.out; omega
     case rel => exact ⟨(y219), (wrap64 (x4_1 + 1)), (by first | rfl | (simp; done) | (simp [*]; done)), H', ⟨by have := HK1.out; omega⟩, ⟨PR HO221⟩, ⟨PB⟩⟩
    ·rw [if_neg c5] at H
     exact absurd H (by simp)
   ·rw [if_neg c4] at H
    have c4b0 : decide (x4_1 < a0) = false := decide_eq_false c4
    clear c4
    obtain rfl := Option.some.inj H
    go_wp2
    go_ret
    exact ⟨_, RT, by (with_reducible repeat (first | apply Kd.R_alloc | apply Kd.R_drewN | apply Kd.R_drew)); exact HO_3.out, PB⟩

/-! ### spec_StartState: function 167 -/
def spec_StartState.f (k : Nat)  : Option (Int × List Int × List Int × List Int) := (spec_l11Zeros.f k 4).bind fun t223 => ((spec_l11Zeros.f k 3).bind fun t226 => ((spec_l11Zeros.f k 4).bind fun t229 => (some (0, t223, t226, t229))))
set_option maxHeartbeats 8000000 in
set_option maxRecDepth 100000 in
theorem spec_StartState.calls (k : Nat)  (r1 : Int) (r2 : List Int) (r3 : List Int) (r4 : List Int) (w : World) (h : spec_StartState.f k  = some (r1, r2, r3, r4)) :
  Calls Try.prog 167 #[] w fun e w' => ∃ v1_ v2_ v3_ : Value, e = .returned (.agg #[.int .i64 r1, v1_, v2_, v3_]) ∧ Kd.R (Kd.int .i64) 3 w' w.heap.size (fun k_ => some k_ ≠ (v2_ : Value).ownBlock ∧ some k_ ≠ (v3_ : Value).ownBlock) v1_ r2 ∧ Kd.R (Kd.int .i64) 3 w' w.heap.size (fun k_ => some k_ ≠ (v1_ : Value).ownBlock ∧ some k_ ≠ (v3_ : Value).ownBlock) v2_ r3 ∧ Kd.R (Kd.int .i64) 3 w' w.heap.size (fun k_ => some k_ ≠ (v1_ : Value).ownBlock ∧ some k_ ≠ (v2_ : Value).ownBlock) v3_ r4 ∧ Below w.heap.size w w' := by
 have hu45 := Try.underlying45
 have HB := ak (Below.refl w.heap.size w)
 have H : ((spec_l11Zeros.f k 4).bind fun t223 => ((spec_l11Zeros.f k 3).bind fun t226 => ((spec_l11Zeros.f k 4).bind fun t229 => (some (0, t223, t226, t229))))) = some (r1, r2, r3, r4) := h
 clear h
 replace H := Option.bind_eq_some_iff.mp H
 obtain ⟨t223, A10, H⟩ := H
 replace H : ((spec_l11Zeros.f k 3).bind fun t226 => ((spec_l11Zeros.f k 4).bind fun t229 => (some (0, t223, t226, t229)))) = some (r1, r2, r3, r4) := H
 have A1 := Aside0.mk A10
 clear A10
 replace H := Option.bind_eq_some_iff.mp H
 obtain ⟨t226, A20, H⟩ := H
 replace H : ((spec_l11Zeros.f k 4).bind fun t229 => (some (0, t223, t226, t229))) = some (r1, r2, r3, r4) := H
 have A2 := Aside0.mk A20
 clear A20
 replace H := Option.bind_eq_some_iff.mp H
 obtain ⟨t229, A30, H⟩ := H
 replace H : (some (0, t223, t226, t229)) = some (r1, r2, r3, r4) := H
 have A3 := Aside0.mk A30
 clear A30
 simp only [Option.some.injEq, Prod.mk.injEq] at H
 obtain ⟨rfl, rfl, rfl, rfl⟩ := H
 go_enter Try.func167, Try.ntmps167
 go_wp2_with (first | ((with_reducible refine gate_dst (N := 0) rfl ?_); refine bx_ (N := 0) #[.int .i64 0, .slice none 0 0, .slice none 0 0, .slice none 0 0] 45 ?_; intro gb222 hg w4 hbox hb; have BK222 := ak hbox; have GW222 := gy hg HB; have GE222 := gy hg HB; replace HB := bs HB hb; clear hb hbox hg) | ((with_reducible refine gate_callee (f := 168) rfl ?_); refine goesL_ (some 1) rfl rfl Try.func168 KR rfl #[.int .i64 4] rfl AR ?_; (with_reducible refine (spec_l11Zeros.calls k 4 t223 _ A1.out).mono ?_); rintro e w5 ⟨v224, rfl, ho0, hb⟩; refine ⟨_, rfl, ?_⟩; have HO225 := Rn0 ho0 HB; replace BK222 := kf BK222 hb; replace HB := bs HB hb; (try clear hb); (try clear hb2); (try clear hk); (try clear hi); (try clear ho0)) | ((with_reducible refine gate_callee (f := 168) rfl ?_); refine goesL_ (some 2) rfl rfl Try.func168 KR rfl #[.int .i64 3] rfl AR ?_; (with_reducible refine (spec_l11Zeros.calls k 3 t226 _ A2.out).mono ?_); rintro e w6 ⟨v227, rfl, ho0, hb⟩; refine ⟨_, rfl, ?_⟩; have HO228 := Rn1 ho0 HB HO225; replace HO225 := ak (Kd.R_elder' (PR HO225) (Kd.R_base ho0) hb); replace BK222 := kf BK222 hb; replace HB := bs HB hb; (try clear hb); (try clear hb2); (try clear hk); (try clear hi); (try clear ho0)) | ((with_reducible refine gate_callee (f := 168) rfl ?_); refine goesL_ (some 3) rfl rfl Try.func168 KR rfl #[.int .i64 4] rfl AR ?_; (with_reducible refine (spec_l11Zeros.calls k 4 t229 _ A3.out).mono ?_); rintro e w7 ⟨v230, rfl, ho0, hb⟩; refine ⟨_, rfl, ?_⟩; have HO231 := Rn2 ho0 HB HO225 HO228; replace HO225 := ak (Kd.R_elder' (PR HO225) (Kd.R_base ho0) hb); replace HO228 := ak (Kd.R_elder' (PR HO228) (Kd.R_base ho0) hb); replace BK222 := kf BK222 hb; replace HB := bs HB hb; (try clear hb); (try clear hb2); (try clear hk); (try clear hi); (try clear ho0); obtain ⟨Ao8, co8, eo8⟩ := Kd.R_slice HO231.out; subst eo8; obtain ⟨Ao9, co9, eo9⟩ := Kd.R_slice HO228.out; subst eo9; obtain ⟨Ao10, co10, eo10⟩ := Kd.R_slice HO225.out; subst eo10; obtain ⟨_, _, _, _, _, _, _, _⟩ := bc4 BK222))
 refine bodyPost_ret (results_cell_row rfl _ _ gb222 45 #[.int .i64 0, .slice Ao10 t223.length co10, .slice Ao9 t226.length co9, .slice Ao8 t229.length co8] (0, 0) _ rfl (PX BK222) Try.underlying45 rfl KR) rfl ?_
 exact ⟨_, _, _, RT, RX (Rt HO225.out BK222) (fun _ hk => by first | exact ⟨hk.1.1.2, hk.1.2⟩ | simp_all), RX (Rt HO228.out BK222) (fun _ hk => by first | exact ⟨hk.1.1.2, hk.1.2⟩ | simp_all), RX (Rt HO231.out BK222) (fun _ hk => by first | exact ⟨hk.1.1.2, hk.1.2⟩ | simp_all), PB⟩

end Go.Proofs.Ytgcamebeonodeaa.MFnMachine
