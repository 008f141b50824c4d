/- The row of the law FnExactWantOf: whatever the input, the call returns true, and each argument reads behind the call as it read before. No condition. -/
import Derived.Test.YtnhnfomfeicilaaRows
import Derived.Test.YtnhnfomfeicilaaMFnExactWantOfx7
import Derived.Test.YtnhnfomfeicilaaPureFnExactWantOf
import Derived.Test.YtnhnfomfeicilaaOpen
import Derived.WalkKit
import Derived.ProofKit
import Derived.OpenShut
import Derived.ShutString
import Derived.ChangeOld
import Derived.Below
import Derived.SizedLaws
import Derived.Carry
namespace Go.Proofs.Ytnhnfomfeicilaa.fnExactWantOf
open Go.ChangeShapes Go.WideShapes Go.ChangeAt Go.RowKit
open Go.Proofs.Ytnhnfomfeicilaa.Open Go.Proofs.YtnhnfomfeicilaaW.PrintWords Go.Proofs.Ytnhnfomfeicilaa.MFnExactWantOf
set_option linter.unusedVariables false
set_option linter.unusedSimpArgs false
theorem own : ownKnob Try.prog.godebug = none := by kernel_rfl
theorem laidOut : laidOutB Try.prog = true := by kernel_rfl
theorem op165 {H : Type} {enc : TypeId × Value → H} {W : World} : Opn enc Try.prog W 165 k165 Pure.W165 := opn_iso (f := fun x : S165 => (x.f0, x.f1, x.f2, x.f3)) (fun p => ⟨p.1, p.2.1, p.2.2.1, p.2.2.2⟩) (fun _ => rfl) (opn_struct Try.underlying165 (by kernel_rfl) (opnFs_cons rfl (opn_int Try.underlying3 (by kernel_rfl)) (opnFs_cons rfl (opn_int Try.underlying3 (by kernel_rfl)) (opnFs_cons rfl (opn_int Try.underlying3 (by kernel_rfl)) (opnFs_one rfl (opn_int Try.underlying3 (by kernel_rfl)))))))
set_option maxRecDepth 100000 in
theorem lifted (os : Os) (started : os.Started) (H : Type) (enc : TypeId × Value → H) :
    ReturnsInHanded {} Try.checked os 12 .any (Rows.fnExactWantOfSpec.pre6 enc Try.prog Try.f12 Rows.fnExactWantOfRow.domain false) (Rows.fnExactWantOfSpec.post enc Try.prog Try.f12 false true false false) := by
  refine returnsInHanded_of_change_sized (C := Try.checked) own started (by kernel_rfl) Try.func12
    (ChangeSpec.witness6 (enc := enc) (C := Try.checked) false ⟨#[], #[.slice none 0 0, .agg #[.int .i64 0, .slice none 0 0, .slice none 0 0, .slice none 0 0]], []⟩ 8 (by kernel_rfl) (by kernel_rfl) (by kernel_rfl) (by kernel_rfl)) ?_
  intro W base args ds gs before hval0 hW hcnd hsz0 _
  have hval : ∀ (j : Nat) t v, Try.f12.params[j]? = some t → args[j]? = some v → Value.okWide Try.prog W .any base t v := hval0
  have hW' := hW
  obtain ⟨p, q, hA0, hV, rfl, hfz, hnd⟩ := hW
  have hA : DataW.TrodAll enc Try.prog W 0 (fun _ => true) true Try.f12.params.toList args.toList ds p := hA0
  rw [Try.params12] at hA hval
  obtain ⟨v0, vs0, d0, ds0, p0, q0, hargs, rfl, rfl, h0, r0⟩ := trodAll_cons hA
  obtain ⟨v1, vs1, d1, ds1, p1, q1, rfl, rfl, rfl, h1, r1⟩ := trodAll_cons r0
  obtain ⟨rfl, rfl, rfl⟩ := trodAll_nil r1
  obtain rfl : args = #[v0, v1] := by cases args; simp_all
  obtain ⟨rfl, rfl⟩ := trodVars_none hV
  obtain ⟨a0, len0, cap0, rfl⟩ := okWide_slice Try.underlying99 (hval 0 99 v0 rfl rfl)
  have k0 := h0
  have lt0 := trod_block h0
  obtain ⟨l0, ⟨A0, c0, e0, hl0, hr0⟩, wf0⟩ := opn_arg (d := (Kd.slice 165 MFnExactWantOf.k165)) (opn_slice 165 Try.underlying99 (by kernel_rfl) op165) h0
  simp [Value.cells] at e0
  obtain ⟨rfl, rfl, rfl⟩ := e0
  obtain ⟨cs1, rfl, _⟩ := okWide_struct Try.underlying55 (hval 1 55 v1 rfl rfl)
  have k1 := h1
  have lt1 := trod_block h1
  obtain ⟨y1, hK1, wf1⟩ := opn_arg (d := (Kd.pair (Kd.int .i64) (Kd.pair (Kd.slice 3 (Kd.int .i64)) (Kd.pair (Kd.slice 3 (Kd.int .i64)) (Kd.slice 3 (Kd.int .i64)))))) (opn_struct Try.underlying55 (by kernel_rfl) (opnFs_cons rfl (opn_int Try.underlying3 (by kernel_rfl)) (opnFs_cons rfl (opn_slice 3 Try.underlying37 (by kernel_rfl) (opn_int Try.underlying3 (by kernel_rfl))) (opnFs_cons rfl (opn_slice 3 Try.underlying37 (by kernel_rfl) (opn_int Try.underlying3 (by kernel_rfl))) (opnFs_one rfl (opn_slice 3 Try.underlying37 (by kernel_rfl) (opn_int Try.underlying3 (by kernel_rfl)))))))) h1
  have e1 : (Value.agg cs1).cells.toList = cs1.toList := by simp [Value.cells]
  rw [e1] at hK1
  clear e1
  obtain ⟨cl1⟩ := cs1
  obtain ⟨_, _, rfl, rfl, ⟨_, _, rfl, ⟨A1_1, c1_1, rfl, hl1_1, hr1_1⟩, ⟨_, _, rfl, ⟨A1_2, c1_2, rfl, hl1_2, hr1_2⟩, ⟨A1_3, c1_3, rfl, hl1_3, hr1_3⟩⟩⟩⟩ := hK1
  clear hA0 hval0 hsz0
  obtain ⟨k, h⟩ := Pure.FnExactWantOf l0 y1.1 y1.2.1 y1.2.2.1 y1.2.2.2 wf0 wf1.1 wf1.2.1 wf1.2.2.1 wf1.2.2.2
  refine (MFnExactWantOf.laws_FnExactWantOf.calls k _ _ l0 y1.1 _ _ y1.2.1 _ _ y1.2.2.1 _ _ y1.2.2.2 true W hr0 hl0 hr1_1 hl1_1 hr1_2 hl1_2 hr1_3 hl1_3 rfl h).mono ?_
  rintro e W' ⟨rfl, bel⟩
  exact ⟨_, rfl, _, _, _, [], _, [], hW', trodAll_mk1 (shut_bool Try.underlying4 _), (trodAll_cons_mk (Below.trod laidOut (by kernel_rfl) (of_decide_eq_true (by kernel_rfl)) k0 bel lt0) (trodAll_cons_mk (Below.trod laidOut (by kernel_rfl) (of_decide_eq_true (by kernel_rfl)) k1 bel lt1) trodAll_mk0)), rfl, bel.frame _, fun h => by cases h⟩
theorem over : Rows.fnExactWantOfRow.holds Try.pinned (OpenSpec.ofChange Rows.fnExactWantOfSpec) :=
  OpenClaim.holds_of_wide 12 Try.f12 rfl rfl rfl rfl rfl rfl rfl ⟨rfl, rfl, rfl, rfl, rfl⟩ rfl rfl rfl rfl rfl (by kernel_rfl) Try.func12 (by kernel_rfl)
    (of_decide_eq_true (by kernel_rfl)) (by unfold Func.isWrapper; first | (rw [if_pos (by decide +kernel)]; kernel_rfl) | (rw [if_neg (by decide +kernel)]; exact ⟨rfl, rfl⟩))
    (fun os started H enc _ => lifted os started H enc)
theorem proved : Rows.FnExactWantOfSaid := over
#print axioms proved
end Go.Proofs.Ytnhnfomfeicilaa.fnExactWantOf
namespace Go.Proofs.Ytnhnfomfeicilaa
/-- The row, under a short name, for the claim. -/
theorem fnExactWantOf_holds : Rows.FnExactWantOfSaid := fnExactWantOf.proved
end Go.Proofs.Ytnhnfomfeicilaa
