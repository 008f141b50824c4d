/- The row of the law FnExactFitsForm: whatever the input, the call returns true, and each argument reads behind the call as it read before. No condition. -/
import Derived.Test.YtnhnfomfeicilaaRows
import Derived.Test.YtnhnfomfeicilaaMFnExactFitsFormx7
import Derived.Test.YtnhnfomfeicilaaPureFnExactFitsForm
import Derived.Test.YtnhnfomfeicilaaOpen
import Derived.WalkKit
import Derived.ProofKit
import Derived.OpenShut
import Derived.ShutString
import Derived.ChangeOld
import Derived.Below
import Derived.SizedLaws
import Derived.Carry
namespace Go.Proofs.Ytnhnfomfeicilaa.fnExactFitsForm
open Go.ChangeShapes Go.WideShapes Go.ChangeAt Go.RowKit
open Go.Proofs.Ytnhnfomfeicilaa.Open Go.Proofs.YtnhnfomfeicilaaW.PrintWords Go.Proofs.Ytnhnfomfeicilaa.MFnExactFitsForm
set_option linter.unusedVariables false
set_option linter.unusedSimpArgs false
theorem own : ownKnob Try.prog.godebug = none := by kernel_rfl
theorem laidOut : laidOutB Try.prog = true := by kernel_rfl
set_option maxRecDepth 100000 in
theorem lifted (os : Os) (started : os.Started) (H : Type) (enc : TypeId × Value → H) :
    ReturnsInHanded {} Try.checked os 6 .any (Rows.fnExactFitsFormSpec.pre6 enc Try.prog Try.f6 Rows.fnExactFitsFormRow.domain false) (Rows.fnExactFitsFormSpec.post enc Try.prog Try.f6 false true false false) := by
  refine returnsInHanded_of_change_sized (C := Try.checked) own started (by kernel_rfl) Try.func6
    (ChangeSpec.witness6 (enc := enc) (C := Try.checked) false ⟨#[], #[.agg #[.int .i64 0, .int .i64 0, .int .i64 0, .bool false], .agg #[.int .i64 0, .int .i64 0, .int .i64 0, .int .i64 0, .int .i64 0, .slice none 0 0, .int .i64 0, .int .i64 0, .int .i64 0]], []⟩ 8 (by kernel_rfl) (by kernel_rfl) (by kernel_rfl) (by kernel_rfl)) ?_
  intro W base args ds gs before hval0 hW hcnd hsz0 _
  have hval : ∀ (j : Nat) t v, Try.f6.params[j]? = some t → args[j]? = some v → Value.okWide Try.prog W .any base t v := hval0
  have hW' := hW
  obtain ⟨p, q, hA0, hV, rfl, hfz, hnd⟩ := hW
  have hA : DataW.TrodAll enc Try.prog W 0 (fun _ => true) true Try.f6.params.toList args.toList ds p := hA0
  rw [Try.params6] at hA hval
  obtain ⟨v0, vs0, d0, ds0, p0, q0, hargs, rfl, rfl, h0, r0⟩ := trodAll_cons hA
  obtain ⟨v1, vs1, d1, ds1, p1, q1, rfl, rfl, rfl, h1, r1⟩ := trodAll_cons r0
  obtain ⟨rfl, rfl, rfl⟩ := trodAll_nil r1
  obtain rfl : args = #[v0, v1] := by cases args; simp_all
  obtain ⟨rfl, rfl⟩ := trodVars_none hV
  obtain ⟨cs0, rfl, _⟩ := okWide_struct Try.underlying34 (hval 0 34 v0 rfl rfl)
  have k0 := h0
  have lt0 := trod_block h0
  obtain ⟨y0, hK0, wf0⟩ := opn_arg (d := (Kd.pair (Kd.int .i64) (Kd.pair (Kd.int .i64) (Kd.pair (Kd.int .i64) Kd.bool)))) (opn_struct Try.underlying34 (by kernel_rfl) (opnFs_cons rfl (opn_int Try.underlying3 (by kernel_rfl)) (opnFs_cons rfl (opn_int Try.underlying3 (by kernel_rfl)) (opnFs_cons rfl (opn_int Try.underlying3 (by kernel_rfl)) (opnFs_one rfl (opn_bool Try.underlying4 (by kernel_rfl))))))) h0
  have e0 : (Value.agg cs0).cells.toList = cs0.toList := by simp [Value.cells]
  rw [e0] at hK0
  clear e0
  obtain ⟨cl0⟩ := cs0
  obtain ⟨_, _, rfl, rfl, ⟨_, _, rfl, rfl, ⟨_, _, rfl, rfl, rfl⟩⟩⟩ := hK0
  obtain ⟨cs1, rfl, _⟩ := okWide_struct Try.underlying41 (hval 1 41 v1 rfl rfl)
  have k1 := h1
  have lt1 := trod_block h1
  obtain ⟨y1, hK1, wf1⟩ := opn_arg (d := (Kd.pair (Kd.pair (Kd.int .i64) (Kd.pair (Kd.int .i64) (Kd.int .i64))) (Kd.pair (Kd.int .i64) (Kd.pair (Kd.int .i64) (Kd.pair (Kd.slice 3 (Kd.int .i64)) (Kd.pair (Kd.int .i64) (Kd.pair (Kd.int .i64) (Kd.int .i64)))))))) (opn_struct Try.underlying41 (by kernel_rfl) (opnFs_cons rfl (opn_struct Try.underlying36 (by kernel_rfl) (opnFs_cons rfl (opn_int Try.underlying3 (by kernel_rfl)) (opnFs_cons rfl (opn_int Try.underlying3 (by kernel_rfl)) (opnFs_one rfl (opn_int Try.underlying3 (by kernel_rfl)))))) (opnFs_cons rfl (opn_int Try.underlying3 (by kernel_rfl)) (opnFs_one rfl (opn_struct Try.underlying39 (by kernel_rfl) (opnFs_cons rfl (opn_int Try.underlying3 (by kernel_rfl)) (opnFs_cons rfl (opn_slice 3 Try.underlying37 (by kernel_rfl) (opn_int Try.underlying3 (by kernel_rfl))) (opnFs_one rfl (opn_struct Try.underlying36 (by kernel_rfl) (opnFs_cons rfl (opn_int Try.underlying3 (by kernel_rfl)) (opnFs_cons rfl (opn_int Try.underlying3 (by kernel_rfl)) (opnFs_one rfl (opn_int Try.underlying3 (by kernel_rfl)))))))))))))) h1
  have e1 : (Value.agg cs1).cells.toList = cs1.toList := by simp [Value.cells]
  rw [e1] at hK1
  clear e1
  obtain ⟨cl1⟩ := cs1
  obtain ⟨_, _, rfl, ⟨_, _, rfl, rfl, ⟨_, _, rfl, rfl, rfl⟩⟩, ⟨_, _, rfl, rfl, ⟨_, _, rfl, rfl, ⟨_, _, rfl, ⟨A1_1, c1_1, rfl, hl1_1, hr1_1⟩, ⟨_, _, rfl, rfl, ⟨_, _, rfl, rfl, rfl⟩⟩⟩⟩⟩⟩ := hK1
  clear hA0 hval0 hsz0
  obtain ⟨k, h⟩ := Pure.FnExactFitsForm y0.1 y0.2.1 y0.2.2.1 y0.2.2.2 y1.1.1 y1.1.2.1 y1.1.2.2 y1.2.1 y1.2.2.1 y1.2.2.2.1 y1.2.2.2.2.1 y1.2.2.2.2.2.1 y1.2.2.2.2.2.2 wf0.1 wf0.2.1 wf0.2.2.1 wf0.2.2.2 wf1.1.1 wf1.1.2.1 wf1.1.2.2 wf1.2.1 wf1.2.2.1 wf1.2.2.2.1 wf1.2.2.2.2.1 wf1.2.2.2.2.2.1 wf1.2.2.2.2.2.2
  refine (MFnExactFitsForm.laws_FnExactFitsForm.calls k y0.1 y0.2.1 y0.2.2.1 y0.2.2.2 y1.1.1 y1.1.2.1 y1.1.2.2 y1.2.1 y1.2.2.1 _ _ y1.2.2.2.1 y1.2.2.2.2.1 y1.2.2.2.2.2.1 y1.2.2.2.2.2.2 true W hr1_1 hl1_1 rfl h).mono ?_
  rintro e W' ⟨rfl, bel⟩
  exact ⟨_, rfl, _, _, _, [], _, [], hW', trodAll_mk1 (shut_bool Try.underlying4 _), (trodAll_cons_mk (Below.trod laidOut (by kernel_rfl) (of_decide_eq_true (by kernel_rfl)) k0 bel lt0) (trodAll_cons_mk (Below.trod laidOut (by kernel_rfl) (of_decide_eq_true (by kernel_rfl)) k1 bel lt1) trodAll_mk0)), rfl, bel.frame _, fun h => by cases h⟩
theorem over : Rows.fnExactFitsFormRow.holds Try.pinned (OpenSpec.ofChange Rows.fnExactFitsFormSpec) :=
  OpenClaim.holds_of_wide 6 Try.f6 rfl rfl rfl rfl rfl rfl rfl ⟨rfl, rfl, rfl, rfl, rfl⟩ rfl rfl rfl rfl rfl (by kernel_rfl) Try.func6 (by kernel_rfl)
    (of_decide_eq_true (by kernel_rfl)) (by unfold Func.isWrapper; first | (rw [if_pos (by decide +kernel)]; kernel_rfl) | (rw [if_neg (by decide +kernel)]; exact ⟨rfl, rfl⟩))
    (fun os started H enc _ => lifted os started H enc)
theorem proved : Rows.FnExactFitsFormSaid := over
#print axioms proved
end Go.Proofs.Ytnhnfomfeicilaa.fnExactFitsForm
namespace Go.Proofs.Ytnhnfomfeicilaa
/-- The row, under a short name, for the claim. -/
theorem fnExactFitsForm_holds : Rows.FnExactFitsFormSaid := fnExactFitsForm.proved
end Go.Proofs.Ytnhnfomfeicilaa
