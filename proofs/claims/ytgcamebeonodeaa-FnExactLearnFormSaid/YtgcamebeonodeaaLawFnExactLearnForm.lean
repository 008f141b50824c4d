/- The row of the law FnExactLearnForm: whatever the input, the call returns true, and each argument reads behind the call as it read before. No condition. -/
import Derived.Test.YtgcamebeonodeaaRows
import Derived.Test.YtgcamebeonodeaaMFnExactLearnFormx11
import Derived.Test.YtgcamebeonodeaaPureFnExactLearnForm
import Derived.Test.YtgcamebeonodeaaOpen
import Derived.WalkKit
import Derived.ProofKit
import Derived.OpenShut
import Derived.ShutString
import Derived.ChangeOld
import Derived.Below
import Derived.SizedLaws
import Derived.Carry
namespace Go.Proofs.Ytgcamebeonodeaa.fnExactLearnForm
open Go.ChangeShapes Go.WideShapes Go.ChangeAt Go.RowKit
open Go.Proofs.Ytgcamebeonodeaa.Open Go.Proofs.YtgcamebeonodeaaW.PrintWords Go.Proofs.Ytgcamebeonodeaa.MFnExactLearnForm
set_option linter.unusedVariables false
set_option linter.unusedSimpArgs false
theorem own : ownKnob Try.prog.godebug = none := by kernel_rfl
theorem laidOut : laidOutB Try.prog = true := by kernel_rfl
theorem op82 {H : Type} {enc : TypeId × Value → H} {W : World} : Opn enc Try.prog W 82 k82 Pure.W82 := opn_iso (f := fun x : S82 => (x.f0, x.f1, x.f2)) (fun p => ⟨p.1, p.2.1, p.2.2⟩) (fun _ => rfl) (opn_struct Try.underlying82 (by kernel_rfl) (opnFs_cons rfl (opn_int Try.underlying3 (by kernel_rfl)) (opnFs_cons rfl (opn_int Try.underlying3 (by kernel_rfl)) (opnFs_one rfl (opn_int Try.underlying3 (by kernel_rfl))))))
theorem op141 {H : Type} {enc : TypeId × Value → H} {W : World} : Opn enc Try.prog W 141 k141 Pure.W141 := opn_iso (f := fun x : S141 => (x.f0, x.f1, x.f2)) (fun p => ⟨p.1, p.2.1, p.2.2⟩) (fun _ => rfl) (opn_struct Try.underlying141 (by kernel_rfl) (opnFs_cons rfl (opn_int Try.underlying3 (by kernel_rfl)) (opnFs_cons rfl (opn_slice 3 Try.underlying36 (by kernel_rfl) (opn_int Try.underlying3 (by kernel_rfl))) (opnFs_one rfl op82))))
theorem op143 {H : Type} {enc : TypeId × Value → H} {W : World} : Opn enc Try.prog W 143 k143 Pure.W143 := opn_iso (f := fun x : S143 => (x.f0, x.f1, x.f2)) (fun p => ⟨p.1, p.2.1, p.2.2⟩) (fun _ => rfl) (opn_struct Try.underlying143 (by kernel_rfl) (opnFs_cons rfl op82 (opnFs_cons rfl (opn_int Try.underlying3 (by kernel_rfl)) (opnFs_one rfl op141))))
set_option maxRecDepth 100000 in
theorem lifted (os : Os) (started : os.Started) (H : Type) (enc : TypeId × Value → H) :
    ReturnsInHanded {} Try.checked os 7 .any (Rows.fnExactLearnFormSpec.pre6 enc Try.prog Try.f7 Rows.fnExactLearnFormRow.domain false) (Rows.fnExactLearnFormSpec.post enc Try.prog Try.f7 false true false false) := by
  refine returnsInHanded_of_change_sized (C := Try.checked) own started (by kernel_rfl) Try.func7
    (ChangeSpec.witness6 (enc := enc) (C := Try.checked) false ⟨#[], #[.slice none 0 0, .agg #[.int .i64 0, .int .i64 0, .int .i64 0]], []⟩ 8 (by kernel_rfl) (by kernel_rfl) (by kernel_rfl) (by kernel_rfl)) ?_
  intro W base args ds gs before hval0 hW hcnd hsz0 _
  have hval : ∀ (j : Nat) t v, Try.f7.params[j]? = some t → args[j]? = some v → Value.okWide Try.prog W .any base t v := hval0
  have hW' := hW
  obtain ⟨p, q, hA0, hV, rfl, hfz, hnd⟩ := hW
  have hA : DataW.TrodAll enc Try.prog W 0 (fun _ => true) true Try.f7.params.toList args.toList ds p := hA0
  rw [Try.params7] at hA hval
  obtain ⟨v0, vs0, d0, ds0, p0, q0, hargs, rfl, rfl, h0, r0⟩ := trodAll_cons hA
  obtain ⟨v1, vs1, d1, ds1, p1, q1, rfl, rfl, rfl, h1, r1⟩ := trodAll_cons r0
  obtain ⟨rfl, rfl, rfl⟩ := trodAll_nil r1
  obtain rfl : args = #[v0, v1] := by cases args; simp_all
  obtain ⟨rfl, rfl⟩ := trodVars_none hV
  obtain ⟨a0, len0, cap0, rfl⟩ := okWide_slice Try.underlying81 (hval 0 81 v0 rfl rfl)
  have k0 := h0
  have lt0 := trod_block h0
  obtain ⟨l0, ⟨A0, c0, e0, hl0, hr0⟩, wf0⟩ := opn_arg (d := (Kd.slice 143 MFnExactLearnForm.k143)) (opn_slice 143 Try.underlying81 (by kernel_rfl) op143) h0
  simp [Value.cells] at e0
  obtain ⟨rfl, rfl, rfl⟩ := e0
  obtain ⟨cs1, rfl, _⟩ := okWide_struct Try.underlying82 (hval 1 82 v1 rfl rfl)
  have k1 := h1
  have lt1 := trod_block h1
  obtain ⟨y1, hK1, wf1⟩ := opn_arg (d := (Kd.pair (Kd.int .i64) (Kd.pair (Kd.int .i64) (Kd.int .i64)))) (opn_struct Try.underlying82 (by kernel_rfl) (opnFs_cons rfl (opn_int Try.underlying3 (by kernel_rfl)) (opnFs_cons rfl (opn_int Try.underlying3 (by kernel_rfl)) (opnFs_one rfl (opn_int Try.underlying3 (by kernel_rfl)))))) h1
  have e1 : (Value.agg cs1).cells.toList = cs1.toList := by simp [Value.cells]
  rw [e1] at hK1
  clear e1
  obtain ⟨cl1⟩ := cs1
  obtain ⟨_, _, rfl, rfl, ⟨_, _, rfl, rfl, rfl⟩⟩ := hK1
  clear hA0 hval0 hsz0
  obtain ⟨k, h⟩ := Pure.FnExactLearnForm l0 y1.1 y1.2.1 y1.2.2 wf0 wf1.1 wf1.2.1 wf1.2.2
  refine (MFnExactLearnForm.laws_FnExactLearnForm.calls k _ _ l0 y1.1 y1.2.1 y1.2.2 true W hr0 hl0 rfl h).mono ?_
  rintro e W' ⟨rfl, bel⟩
  exact ⟨_, rfl, _, _, _, [], _, [], hW', trodAll_mk1 (shut_bool Try.underlying4 _), (trodAll_cons_mk (Below.trod laidOut (by kernel_rfl) (of_decide_eq_true (by kernel_rfl)) k0 bel lt0) (trodAll_cons_mk (Below.trod laidOut (by kernel_rfl) (of_decide_eq_true (by kernel_rfl)) k1 bel lt1) trodAll_mk0)), rfl, bel.frame _, fun h => by cases h⟩
theorem over : Rows.fnExactLearnFormRow.holds Try.pinned (OpenSpec.ofChange Rows.fnExactLearnFormSpec) :=
  OpenClaim.holds_of_wide 7 Try.f7 rfl rfl rfl rfl rfl rfl rfl ⟨rfl, rfl, rfl, rfl, rfl⟩ rfl rfl rfl rfl rfl (by kernel_rfl) Try.func7 (by kernel_rfl)
    (of_decide_eq_true (by kernel_rfl)) (by unfold Func.isWrapper; first | (rw [if_pos (by decide +kernel)]; kernel_rfl) | (rw [if_neg (by decide +kernel)]; exact ⟨rfl, rfl⟩))
    (fun os started H enc _ => lifted os started H enc)
theorem proved : Rows.FnExactLearnFormSaid := over
#print axioms proved
end Go.Proofs.Ytgcamebeonodeaa.fnExactLearnForm
namespace Go.Proofs.Ytgcamebeonodeaa
/-- The row, under a short name, for the claim. -/
theorem fnExactLearnForm_holds : Rows.FnExactLearnFormSaid := fnExactLearnForm.proved
end Go.Proofs.Ytgcamebeonodeaa
