/- The row of the law FnExactCountFits: whatever the input, the call returns true, and each argument reads behind the call as it read before. No condition. -/
import Derived.Test.YtnhnfomfeicilaaRows
import Derived.Test.YtnhnfomfeicilaaMFnExactCountFitsx10
import Derived.Test.YtnhnfomfeicilaaPureFnExactCountFits
import Derived.Test.YtnhnfomfeicilaaOpen
import Derived.WalkKit
import Derived.ProofKit
import Derived.OpenShut
import Derived.ShutString
import Derived.ChangeOld
import Derived.Below
import Derived.SizedLaws
import Derived.Carry
namespace Go.Proofs.Ytnhnfomfeicilaa.fnExactCountFits
open Go.ChangeShapes Go.WideShapes Go.ChangeAt Go.RowKit
open Go.Proofs.Ytnhnfomfeicilaa.Open Go.Proofs.YtnhnfomfeicilaaW.PrintWords Go.Proofs.Ytnhnfomfeicilaa.MFnExactCountFits
set_option linter.unusedVariables false
set_option linter.unusedSimpArgs false
theorem own : ownKnob Try.prog.godebug = none := by kernel_rfl
theorem laidOut : laidOutB Try.prog = true := by kernel_rfl
theorem op36 {H : Type} {enc : TypeId × Value → H} {W : World} : Opn enc Try.prog W 36 k36 Pure.W36 := opn_iso (f := fun x : S36 => (x.f0, x.f1, x.f2)) (fun p => ⟨p.1, p.2.1, p.2.2⟩) (fun _ => rfl) (opn_struct Try.underlying36 (by kernel_rfl) (opnFs_cons rfl (opn_int Try.underlying3 (by kernel_rfl)) (opnFs_cons rfl (opn_int Try.underlying3 (by kernel_rfl)) (opnFs_one rfl (opn_int Try.underlying3 (by kernel_rfl))))))
theorem op39 {H : Type} {enc : TypeId × Value → H} {W : World} : Opn enc Try.prog W 39 k39 Pure.W39 := opn_iso (f := fun x : S39 => (x.f0, x.f1, x.f2)) (fun p => ⟨p.1, p.2.1, p.2.2⟩) (fun _ => rfl) (opn_struct Try.underlying39 (by kernel_rfl) (opnFs_cons rfl (opn_int Try.underlying3 (by kernel_rfl)) (opnFs_cons rfl (opn_slice 3 Try.underlying37 (by kernel_rfl) (opn_int Try.underlying3 (by kernel_rfl))) (opnFs_one rfl op36))))
theorem op41 {H : Type} {enc : TypeId × Value → H} {W : World} : Opn enc Try.prog W 41 k41 Pure.W41 := opn_iso (f := fun x : S41 => (x.f0, x.f1, x.f2)) (fun p => ⟨p.1, p.2.1, p.2.2⟩) (fun _ => rfl) (opn_struct Try.underlying41 (by kernel_rfl) (opnFs_cons rfl op36 (opnFs_cons rfl (opn_int Try.underlying3 (by kernel_rfl)) (opnFs_one rfl op39))))
set_option maxRecDepth 100000 in
theorem lifted (os : Os) (started : os.Started) (H : Type) (enc : TypeId × Value → H) :
    ReturnsInHanded {} Try.checked os 14 .any (Rows.fnExactCountFitsSpec.pre6 enc Try.prog Try.f14 Rows.fnExactCountFitsRow.domain false) (Rows.fnExactCountFitsSpec.post enc Try.prog Try.f14 false true false false) := by
  refine returnsInHanded_of_change_sized (C := Try.checked) own started (by kernel_rfl) Try.func14
    (ChangeSpec.witness6 (enc := enc) (C := Try.checked) false ⟨#[], #[.agg #[.int .i64 0, .int .i64 0, .int .i64 0, .bool false], .slice none 0 0, .agg #[.int .i64 0, .int .i64 0, .int .i64 0]], []⟩ 8 (by kernel_rfl) (by kernel_rfl) (by kernel_rfl) (by kernel_rfl)) ?_
  intro W base args ds gs before hval0 hW hcnd hsz0 _
  have hval : ∀ (j : Nat) t v, Try.f14.params[j]? = some t → args[j]? = some v → Value.okWide Try.prog W .any base t v := hval0
  have hW' := hW
  obtain ⟨p, q, hA0, hV, rfl, hfz, hnd⟩ := hW
  have hA : DataW.TrodAll enc Try.prog W 0 (fun _ => true) true Try.f14.params.toList args.toList ds p := hA0
  rw [Try.params14] at hA hval
  obtain ⟨v0, vs0, d0, ds0, p0, q0, hargs, rfl, rfl, h0, r0⟩ := trodAll_cons hA
  obtain ⟨v1, vs1, d1, ds1, p1, q1, rfl, rfl, rfl, h1, r1⟩ := trodAll_cons r0
  obtain ⟨v2, vs2, d2, ds2, p2, q2, rfl, rfl, rfl, h2, r2⟩ := trodAll_cons r1
  obtain ⟨rfl, rfl, rfl⟩ := trodAll_nil r2
  obtain rfl : args = #[v0, v1, v2] := by cases args; simp_all
  obtain ⟨rfl, rfl⟩ := trodVars_none hV
  obtain ⟨cs0, rfl, _⟩ := okWide_struct Try.underlying34 (hval 0 34 v0 rfl rfl)
  have k0 := h0
  have lt0 := trod_block h0
  obtain ⟨y0, hK0, wf0⟩ := opn_arg (d := (Kd.pair (Kd.int .i64) (Kd.pair (Kd.int .i64) (Kd.pair (Kd.int .i64) Kd.bool)))) (opn_struct Try.underlying34 (by kernel_rfl) (opnFs_cons rfl (opn_int Try.underlying3 (by kernel_rfl)) (opnFs_cons rfl (opn_int Try.underlying3 (by kernel_rfl)) (opnFs_cons rfl (opn_int Try.underlying3 (by kernel_rfl)) (opnFs_one rfl (opn_bool Try.underlying4 (by kernel_rfl))))))) h0
  have e0 : (Value.agg cs0).cells.toList = cs0.toList := by simp [Value.cells]
  rw [e0] at hK0
  clear e0
  obtain ⟨cl0⟩ := cs0
  obtain ⟨_, _, rfl, rfl, ⟨_, _, rfl, rfl, ⟨_, _, rfl, rfl, rfl⟩⟩⟩ := hK0
  obtain ⟨a1, len1, cap1, rfl⟩ := okWide_slice Try.underlying22 (hval 1 22 v1 rfl rfl)
  have k1 := h1
  have lt1 := trod_block h1
  obtain ⟨l1, ⟨A1, c1, e1, hl1, hr1⟩, wf1⟩ := opn_arg (d := (Kd.slice 41 MFnExactCountFits.k41)) (opn_slice 41 Try.underlying22 (by kernel_rfl) op41) h1
  simp [Value.cells] at e1
  obtain ⟨rfl, rfl, rfl⟩ := e1
  obtain ⟨cs2, rfl, _⟩ := okWide_struct Try.underlying36 (hval 2 36 v2 rfl rfl)
  have k2 := h2
  have lt2 := trod_block h2
  obtain ⟨y2, hK2, wf2⟩ := opn_arg (d := (Kd.pair (Kd.int .i64) (Kd.pair (Kd.int .i64) (Kd.int .i64)))) (opn_struct Try.underlying36 (by kernel_rfl) (opnFs_cons rfl (opn_int Try.underlying3 (by kernel_rfl)) (opnFs_cons rfl (opn_int Try.underlying3 (by kernel_rfl)) (opnFs_one rfl (opn_int Try.underlying3 (by kernel_rfl)))))) h2
  have e2 : (Value.agg cs2).cells.toList = cs2.toList := by simp [Value.cells]
  rw [e2] at hK2
  clear e2
  obtain ⟨cl2⟩ := cs2
  obtain ⟨_, _, rfl, rfl, ⟨_, _, rfl, rfl, rfl⟩⟩ := hK2
  clear hA0 hval0 hsz0
  obtain ⟨k, h⟩ := Pure.FnExactCountFits y0.1 y0.2.1 y0.2.2.1 y0.2.2.2 l1 y2.1 y2.2.1 y2.2.2 wf0.1 wf0.2.1 wf0.2.2.1 wf0.2.2.2 wf1 wf2.1 wf2.2.1 wf2.2.2
  refine (MFnExactCountFits.laws_FnExactCountFits.calls k y0.1 y0.2.1 y0.2.2.1 y0.2.2.2 _ _ l1 y2.1 y2.2.1 y2.2.2 true W hr1 hl1 rfl h).mono ?_
  rintro e W' ⟨rfl, bel⟩
  exact ⟨_, rfl, _, _, _, [], _, [], hW', trodAll_mk1 (shut_bool Try.underlying4 _), (trodAll_cons_mk (Below.trod laidOut (by kernel_rfl) (of_decide_eq_true (by kernel_rfl)) k0 bel lt0) (trodAll_cons_mk (Below.trod laidOut (by kernel_rfl) (of_decide_eq_true (by kernel_rfl)) k1 bel lt1) (trodAll_cons_mk (Below.trod laidOut (by kernel_rfl) (of_decide_eq_true (by kernel_rfl)) k2 bel lt2) trodAll_mk0))), rfl, bel.frame _, fun h => by cases h⟩
theorem over : Rows.fnExactCountFitsRow.holds Try.pinned (OpenSpec.ofChange Rows.fnExactCountFitsSpec) :=
  OpenClaim.holds_of_wide 14 Try.f14 rfl rfl rfl rfl rfl rfl rfl ⟨rfl, rfl, rfl, rfl, rfl⟩ rfl rfl rfl rfl rfl (by kernel_rfl) Try.func14 (by kernel_rfl)
    (of_decide_eq_true (by kernel_rfl)) (by unfold Func.isWrapper; first | (rw [if_pos (by decide +kernel)]; kernel_rfl) | (rw [if_neg (by decide +kernel)]; exact ⟨rfl, rfl⟩))
    (fun os started H enc _ => lifted os started H enc)
theorem proved : Rows.FnExactCountFitsSaid := over
#print axioms proved
end Go.Proofs.Ytnhnfomfeicilaa.fnExactCountFits
namespace Go.Proofs.Ytnhnfomfeicilaa
/-- The row, under a short name, for the claim. -/
theorem fnExactCountFits_holds : Rows.FnExactCountFitsSaid := fnExactCountFits.proved
end Go.Proofs.Ytnhnfomfeicilaa
