/- The row of the law FnExactStepState: whatever the input, the call returns true, and each argument reads behind the call as it read before. No condition. -/
import Derived.Test.YtgcamebeonodeaaRows
import Derived.Test.YtgcamebeonodeaaMFnExactStepStatex11
import Derived.Test.YtgcamebeonodeaaPureFnExactStepState
import Derived.Test.YtgcamebeonodeaaOpen
import Derived.WalkKit
import Derived.ProofKit
import Derived.OpenShut
import Derived.ShutString
import Derived.ChangeOld
import Derived.Below
import Derived.SizedLaws
import Derived.Carry
namespace Go.Proofs.Ytgcamebeonodeaa.fnExactStepState
open Go.ChangeShapes Go.WideShapes Go.ChangeAt Go.RowKit
open Go.Proofs.Ytgcamebeonodeaa.Open Go.Proofs.YtgcamebeonodeaaW.PrintWords Go.Proofs.Ytgcamebeonodeaa.MFnExactStepState
set_option linter.unusedVariables false
set_option linter.unusedSimpArgs false
theorem own : ownKnob Try.prog.godebug = none := by kernel_rfl
theorem laidOut : laidOutB Try.prog = true := by kernel_rfl
theorem op136 {H : Type} {enc : TypeId × Value → H} {W : World} : Opn enc Try.prog W 136 k136 Pure.W136 := opn_iso (f := fun x : S136 => (x.f0, x.f1, x.f2, x.f3)) (fun p => ⟨p.1, p.2.1, p.2.2.1, p.2.2.2⟩) (fun _ => rfl) (opn_struct Try.underlying136 (by kernel_rfl) (opnFs_cons rfl (opn_int Try.underlying3 (by kernel_rfl)) (opnFs_cons rfl (opn_int Try.underlying3 (by kernel_rfl)) (opnFs_cons rfl (opn_int Try.underlying3 (by kernel_rfl)) (opnFs_one rfl (opn_int Try.underlying3 (by kernel_rfl)))))))
set_option maxRecDepth 100000 in
theorem lifted (os : Os) (started : os.Started) (H : Type) (enc : TypeId × Value → H) :
    ReturnsInHanded {} Try.checked os 6 .any (Rows.fnExactStepStateSpec.pre6 enc Try.prog Try.f6 Rows.fnExactStepStateRow.domain false) (Rows.fnExactStepStateSpec.post enc Try.prog Try.f6 false true false false) := by
  refine returnsInHanded_of_change_sized (C := Try.checked) own started (by kernel_rfl) Try.func6
    (ChangeSpec.witness6 (enc := enc) (C := Try.checked) false ⟨#[], #[.slice none 0 0, .agg #[.int .i64 0, .slice none 0 0, .slice none 0 0, .slice none 0 0], .int .i64 0], []⟩ 8 (by kernel_rfl) (by kernel_rfl) (by kernel_rfl) (by kernel_rfl)) ?_
  intro W base args ds gs before hval0 hW hcnd hsz0 _
  have hval : ∀ (j : Nat) t v, Try.f6.params[j]? = some t → args[j]? = some v → Value.okWide Try.prog W .any base t v := hval0
  have hW' := hW
  obtain ⟨p, q, hA0, hV, rfl, hfz, hnd⟩ := hW
  have hA : DataW.TrodAll enc Try.prog W 0 (fun _ => true) true Try.f6.params.toList args.toList ds p := hA0
  rw [Try.params6] at hA hval
  obtain ⟨v0, vs0, d0, ds0, p0, q0, hargs, rfl, rfl, h0, r0⟩ := trodAll_cons hA
  obtain ⟨v1, vs1, d1, ds1, p1, q1, rfl, rfl, rfl, h1, r1⟩ := trodAll_cons r0
  obtain ⟨v2, vs2, d2, ds2, p2, q2, rfl, rfl, rfl, h2, r2⟩ := trodAll_cons r1
  obtain ⟨rfl, rfl, rfl⟩ := trodAll_nil r2
  obtain rfl : args = #[v0, v1, v2] := by cases args; simp_all
  obtain ⟨rfl, rfl⟩ := trodVars_none hV
  obtain ⟨a0, len0, cap0, rfl⟩ := okWide_slice Try.underlying71 (hval 0 71 v0 rfl rfl)
  have k0 := h0
  have lt0 := trod_block h0
  obtain ⟨l0, ⟨A0, c0, e0, hl0, hr0⟩, wf0⟩ := opn_arg (d := (Kd.slice 136 MFnExactStepState.k136)) (opn_slice 136 Try.underlying71 (by kernel_rfl) op136) h0
  simp [Value.cells] at e0
  obtain ⟨rfl, rfl, rfl⟩ := e0
  obtain ⟨cs1, rfl, _⟩ := okWide_struct Try.underlying72 (hval 1 72 v1 rfl rfl)
  have k1 := h1
  have lt1 := trod_block h1
  obtain ⟨y1, hK1, wf1⟩ := opn_arg (d := (Kd.pair (Kd.int .i64) (Kd.pair (Kd.slice 3 (Kd.int .i64)) (Kd.pair (Kd.slice 3 (Kd.int .i64)) (Kd.slice 3 (Kd.int .i64)))))) (opn_struct Try.underlying72 (by kernel_rfl) (opnFs_cons rfl (opn_int Try.underlying3 (by kernel_rfl)) (opnFs_cons rfl (opn_slice 3 Try.underlying36 (by kernel_rfl) (opn_int Try.underlying3 (by kernel_rfl))) (opnFs_cons rfl (opn_slice 3 Try.underlying36 (by kernel_rfl) (opn_int Try.underlying3 (by kernel_rfl))) (opnFs_one rfl (opn_slice 3 Try.underlying36 (by kernel_rfl) (opn_int Try.underlying3 (by kernel_rfl)))))))) h1
  have e1 : (Value.agg cs1).cells.toList = cs1.toList := by simp [Value.cells]
  rw [e1] at hK1
  clear e1
  obtain ⟨cl1⟩ := cs1
  obtain ⟨_, _, rfl, rfl, ⟨_, _, rfl, ⟨A1_1, c1_1, rfl, hl1_1, hr1_1⟩, ⟨_, _, rfl, ⟨A1_2, c1_2, rfl, hl1_2, hr1_2⟩, ⟨A1_3, c1_3, rfl, hl1_3, hr1_3⟩⟩⟩⟩ := hK1
  obtain ⟨a2, rfl, rfl, rfl, w2⟩ := open_int Try.underlying3 (hval 2 3 v2 rfl rfl) h2
  clear hA0 hval0 hsz0
  obtain ⟨k, h⟩ := Pure.FnExactStepState l0 y1.1 y1.2.1 y1.2.2.1 y1.2.2.2 a2 wf0 wf1.1 wf1.2.1 wf1.2.2.1 wf1.2.2.2 w2
  refine (MFnExactStepState.laws_FnExactStepState.calls k _ _ l0 y1.1 _ _ y1.2.1 _ _ y1.2.2.1 _ _ y1.2.2.2 a2 true W hr0 hl0 hr1_1 hl1_1 hr1_2 hl1_2 hr1_3 hl1_3 rfl h).mono ?_
  rintro e W' ⟨rfl, bel⟩
  exact ⟨_, rfl, _, _, _, [], _, [], hW', trodAll_mk1 (shut_bool Try.underlying4 _), (trodAll_cons_mk (Below.trod laidOut (by kernel_rfl) (of_decide_eq_true (by kernel_rfl)) k0 bel lt0) (trodAll_cons_mk (Below.trod laidOut (by kernel_rfl) (of_decide_eq_true (by kernel_rfl)) k1 bel lt1) (trodAll_cons_mk (shut_int Try.underlying3 w2) trodAll_mk0))), rfl, bel.frame _, fun h => by cases h⟩
theorem over : Rows.fnExactStepStateRow.holds Try.pinned (OpenSpec.ofChange Rows.fnExactStepStateSpec) :=
  OpenClaim.holds_of_wide 6 Try.f6 rfl rfl rfl rfl rfl rfl rfl ⟨rfl, rfl, rfl, rfl, rfl⟩ rfl rfl rfl rfl rfl (by kernel_rfl) Try.func6 (by kernel_rfl)
    (of_decide_eq_true (by kernel_rfl)) (by unfold Func.isWrapper; first | (rw [if_pos (by decide +kernel)]; kernel_rfl) | (rw [if_neg (by decide +kernel)]; exact ⟨rfl, rfl⟩))
    (fun os started H enc _ => lifted os started H enc)
theorem proved : Rows.FnExactStepStateSaid := over
#print axioms proved
end Go.Proofs.Ytgcamebeonodeaa.fnExactStepState
namespace Go.Proofs.Ytgcamebeonodeaa
/-- The row, under a short name, for the claim. -/
theorem fnExactStepState_holds : Rows.FnExactStepStateSaid := fnExactStepState.proved
end Go.Proofs.Ytgcamebeonodeaa
