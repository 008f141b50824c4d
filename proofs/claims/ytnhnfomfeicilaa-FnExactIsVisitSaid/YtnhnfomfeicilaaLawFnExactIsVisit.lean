/- The row of the law FnExactIsVisit: whatever the input, the call returns true, and each argument reads behind the call as it read before. No condition. -/
import Derived.Test.YtnhnfomfeicilaaRows
import Derived.Test.YtnhnfomfeicilaaMFnExactIsVisitx7
import Derived.Test.YtnhnfomfeicilaaPureFnExactIsVisit
import Derived.Test.YtnhnfomfeicilaaOpen
import Derived.WalkKit
import Derived.ProofKit
import Derived.OpenShut
import Derived.ShutString
import Derived.ChangeOld
import Derived.Below
import Derived.SizedLaws
import Derived.Carry
namespace Go.Proofs.Ytnhnfomfeicilaa.fnExactIsVisit
open Go.ChangeShapes Go.WideShapes Go.ChangeAt Go.RowKit
open Go.Proofs.Ytnhnfomfeicilaa.Open Go.Proofs.YtnhnfomfeicilaaW.PrintWords Go.Proofs.Ytnhnfomfeicilaa.MFnExactIsVisit
set_option linter.unusedVariables false
set_option linter.unusedSimpArgs false
theorem own : ownKnob Try.prog.godebug = none := by kernel_rfl
theorem laidOut : laidOutB Try.prog = true := by kernel_rfl
theorem op36 {H : Type} {enc : TypeId × Value → H} {W : World} : Opn enc Try.prog W 36 k36 Pure.W36 := opn_iso (f := fun x : S36 => (x.f0, x.f1, x.f2)) (fun p => ⟨p.1, p.2.1, p.2.2⟩) (fun _ => rfl) (opn_struct Try.underlying36 (by kernel_rfl) (opnFs_cons rfl (opn_int Try.underlying3 (by kernel_rfl)) (opnFs_cons rfl (opn_int Try.underlying3 (by kernel_rfl)) (opnFs_one rfl (opn_int Try.underlying3 (by kernel_rfl))))))
theorem op39 {H : Type} {enc : TypeId × Value → H} {W : World} : Opn enc Try.prog W 39 k39 Pure.W39 := opn_iso (f := fun x : S39 => (x.f0, x.f1, x.f2)) (fun p => ⟨p.1, p.2.1, p.2.2⟩) (fun _ => rfl) (opn_struct Try.underlying39 (by kernel_rfl) (opnFs_cons rfl (opn_int Try.underlying3 (by kernel_rfl)) (opnFs_cons rfl (opn_slice 3 Try.underlying37 (by kernel_rfl) (opn_int Try.underlying3 (by kernel_rfl))) (opnFs_one rfl op36))))
theorem op184 {H : Type} {enc : TypeId × Value → H} {W : World} : Opn enc Try.prog W 184 k184 Pure.W184 := opn_iso (f := fun x : S184 => (x.f0, x.f1, x.f2)) (fun p => ⟨p.1, p.2.1, p.2.2⟩) (fun _ => rfl) (opn_struct Try.underlying184 (by kernel_rfl) (opnFs_cons rfl op36 (opnFs_cons rfl (opn_int Try.underlying3 (by kernel_rfl)) (opnFs_one rfl op39))))
set_option maxRecDepth 100000 in
theorem lifted (os : Os) (started : os.Started) (H : Type) (enc : TypeId × Value → H) :
    ReturnsInHanded {} Try.checked os 11 .any (Rows.fnExactIsVisitSpec.pre6 enc Try.prog Try.f11 Rows.fnExactIsVisitRow.domain false) (Rows.fnExactIsVisitSpec.post enc Try.prog Try.f11 false true false false) := by
  refine returnsInHanded_of_change_sized (C := Try.checked) own started (by kernel_rfl) Try.func11
    (ChangeSpec.witness6 (enc := enc) (C := Try.checked) false ⟨#[], #[.agg #[.slice none 0 0, .int .i64 0, .int .i64 0, .slice none 0 0]], []⟩ 8 (by kernel_rfl) (by kernel_rfl) (by kernel_rfl) (by kernel_rfl)) ?_
  intro W base args ds gs before hval0 hW hcnd hsz0 _
  have hval : ∀ (j : Nat) t v, Try.f11.params[j]? = some t → args[j]? = some v → Value.okWide Try.prog W .any base t v := hval0
  have hW' := hW
  obtain ⟨p, q, hA0, hV, rfl, hfz, hnd⟩ := hW
  have hA : DataW.TrodAll enc Try.prog W 0 (fun _ => true) true Try.f11.params.toList args.toList ds p := hA0
  rw [Try.params11] at hA hval
  obtain ⟨v0, vs0, d0, ds0, p0, q0, hargs, rfl, rfl, h0, r0⟩ := trodAll_cons hA
  obtain ⟨rfl, rfl, rfl⟩ := trodAll_nil r0
  obtain rfl : args = #[v0] := by cases args; simp_all
  obtain ⟨rfl, rfl⟩ := trodVars_none hV
  obtain ⟨cs0, rfl, _⟩ := okWide_struct Try.underlying90 (hval 0 90 v0 rfl rfl)
  have k0 := h0
  have lt0 := trod_block h0
  obtain ⟨y0, hK0, wf0⟩ := opn_arg (d := (Kd.pair (Kd.slice 184 MFnExactIsVisit.k184) (Kd.pair (Kd.int .i64) (Kd.pair (Kd.int .i64) (Kd.slice 3 (Kd.int .i64)))))) (opn_struct Try.underlying90 (by kernel_rfl) (opnFs_cons rfl (opn_slice 184 Try.underlying88 (by kernel_rfl) op184) (opnFs_cons rfl (opn_int Try.underlying3 (by kernel_rfl)) (opnFs_cons rfl (opn_int Try.underlying3 (by kernel_rfl)) (opnFs_one rfl (opn_slice 3 Try.underlying37 (by kernel_rfl) (opn_int Try.underlying3 (by kernel_rfl)))))))) h0
  have e0 : (Value.agg cs0).cells.toList = cs0.toList := by simp [Value.cells]
  rw [e0] at hK0
  clear e0
  obtain ⟨cl0⟩ := cs0
  obtain ⟨_, _, rfl, ⟨A0_1, c0_1, rfl, hl0_1, hr0_1⟩, ⟨_, _, rfl, rfl, ⟨_, _, rfl, rfl, ⟨A0_2, c0_2, rfl, hl0_2, hr0_2⟩⟩⟩⟩ := hK0
  clear hA0 hval0 hsz0
  obtain ⟨k, h⟩ := Pure.FnExactIsVisit y0.1 y0.2.1 y0.2.2.1 y0.2.2.2 wf0.1 wf0.2.1 wf0.2.2.1 wf0.2.2.2
  refine (MFnExactIsVisit.laws_FnExactIsVisit.calls k _ _ y0.1 y0.2.1 y0.2.2.1 _ _ y0.2.2.2 true W hr0_1 hl0_1 hr0_2 hl0_2 rfl h).mono ?_
  rintro e W' ⟨rfl, bel⟩
  exact ⟨_, rfl, _, _, _, [], _, [], hW', trodAll_mk1 (shut_bool Try.underlying4 _), (trodAll_cons_mk (Below.trod laidOut (by kernel_rfl) (of_decide_eq_true (by kernel_rfl)) k0 bel lt0) trodAll_mk0), rfl, bel.frame _, fun h => by cases h⟩
theorem over : Rows.fnExactIsVisitRow.holds Try.pinned (OpenSpec.ofChange Rows.fnExactIsVisitSpec) :=
  OpenClaim.holds_of_wide 11 Try.f11 rfl rfl rfl rfl rfl rfl rfl ⟨rfl, rfl, rfl, rfl, rfl⟩ rfl rfl rfl rfl rfl (by kernel_rfl) Try.func11 (by kernel_rfl)
    (of_decide_eq_true (by kernel_rfl)) (by unfold Func.isWrapper; first | (rw [if_pos (by decide +kernel)]; kernel_rfl) | (rw [if_neg (by decide +kernel)]; exact ⟨rfl, rfl⟩))
    (fun os started H enc _ => lifted os started H enc)
theorem proved : Rows.FnExactIsVisitSaid := over
#print axioms proved
end Go.Proofs.Ytnhnfomfeicilaa.fnExactIsVisit
namespace Go.Proofs.Ytnhnfomfeicilaa
/-- The row, under a short name, for the claim. -/
theorem fnExactIsVisit_holds : Rows.FnExactIsVisitSaid := fnExactIsVisit.proved
end Go.Proofs.Ytnhnfomfeicilaa
