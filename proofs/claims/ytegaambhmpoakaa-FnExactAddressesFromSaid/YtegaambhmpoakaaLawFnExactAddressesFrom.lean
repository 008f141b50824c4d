/- The row of the law FnExactAddressesFrom: whatever the input, the call returns true, and each argument reads behind the call as it read before. No condition. -/
import Derived.Test.YtegaambhmpoakaaRows
import Derived.Test.YtegaambhmpoakaaMFnExactAddressesFromx13
import Derived.Test.YtegaambhmpoakaaPureFnExactAddressesFrom
import Derived.Test.YtegaambhmpoakaaOpen
import Derived.WalkKit
import Derived.ProofKit
import Derived.OpenShut
import Derived.ShutString
import Derived.ChangeOld
import Derived.Below
import Derived.SizedLaws
import Derived.Carry
namespace Go.Proofs.Ytegaambhmpoakaa.fnExactAddressesFrom
open Go.ChangeShapes Go.WideShapes Go.ChangeAt Go.RowKit
open Go.Proofs.Ytegaambhmpoakaa.Open Go.Proofs.YtegaambhmpoakaaW.PrintWords Go.Proofs.Ytegaambhmpoakaa.MFnExactAddressesFrom
set_option linter.unusedVariables false
set_option linter.unusedSimpArgs false
theorem own : ownKnob Try.prog.godebug = none := by kernel_rfl
theorem laidOut : laidOutB Try.prog = true := by kernel_rfl
theorem op24 {H : Type} {enc : TypeId × Value → H} {W : World} : Opn enc Try.prog W 24 k24 Pure.W24 := opn_iso (f := fun x : S24 => (x.f0, x.f1, x.f2)) (fun p => ⟨p.1, p.2.1, p.2.2⟩) (fun _ => rfl) (opn_struct Try.underlying24 (by kernel_rfl) (opnFs_cons rfl (opn_int Try.underlying3 (by kernel_rfl)) (opnFs_cons rfl (opn_int Try.underlying3 (by kernel_rfl)) (opnFs_one rfl (opn_int Try.underlying3 (by kernel_rfl))))))
theorem op129 {H : Type} {enc : TypeId × Value → H} {W : World} : Opn enc Try.prog W 129 k129 Pure.W129 := opn_iso (f := fun x : S129 => (x.f0, x.f1, x.f2)) (fun p => ⟨p.1, p.2.1, p.2.2⟩) (fun _ => rfl) (opn_struct Try.underlying129 (by kernel_rfl) (opnFs_cons rfl (opn_int Try.underlying3 (by kernel_rfl)) (opnFs_cons rfl (opn_slice 3 Try.underlying39 (by kernel_rfl) (opn_int Try.underlying3 (by kernel_rfl))) (opnFs_one rfl op24))))
theorem op175 {H : Type} {enc : TypeId × Value → H} {W : World} : Opn enc Try.prog W 175 k175 Pure.W175 := opn_iso (f := fun x : S175 => (x.f0, x.f1, x.f2)) (fun p => ⟨p.1, p.2.1, p.2.2⟩) (fun _ => rfl) (opn_struct Try.underlying175 (by kernel_rfl) (opnFs_cons rfl op24 (opnFs_cons rfl (opn_int Try.underlying3 (by kernel_rfl)) (opnFs_one rfl op129))))
set_option maxRecDepth 100000 in
theorem lifted (os : Os) (started : os.Started) (H : Type) (enc : TypeId × Value → H) :
    ReturnsInHanded {} Try.checked os 12 .any (Rows.fnExactAddressesFromSpec.pre6 enc Try.prog Try.f12 Rows.fnExactAddressesFromRow.domain false) (Rows.fnExactAddressesFromSpec.post enc Try.prog Try.f12 false true false false) := by
  refine returnsInHanded_of_change_sized (C := Try.checked) own started (by kernel_rfl) Try.func12
    (ChangeSpec.witness6 (enc := enc) (C := Try.checked) false ⟨#[], #[.agg #[.slice none 0 0, .int .i64 0, .int .i64 0, .slice none 0 0], .agg #[.int .i64 0, .int .i64 0, .int .i64 0, .int .i64 0], .int .i64 0], []⟩ 8 (by kernel_rfl) (by kernel_rfl) (by kernel_rfl) (by kernel_rfl)) ?_
  intro W base args ds gs before hval0 hW hcnd hsz0 _
  have hval : ∀ (j : Nat) t v, Try.f12.params[j]? = some t → args[j]? = some v → Value.okWide Try.prog W .any base t v := hval0
  have hW' := hW
  obtain ⟨p, q, hA0, hV, rfl, hfz, hnd⟩ := hW
  have hA : DataW.TrodAll enc Try.prog W 0 (fun _ => true) true Try.f12.params.toList args.toList ds p := hA0
  rw [Try.params12] at hA hval
  obtain ⟨v0, vs0, d0, ds0, p0, q0, hargs, rfl, rfl, h0, r0⟩ := trodAll_cons hA
  obtain ⟨v1, vs1, d1, ds1, p1, q1, rfl, rfl, rfl, h1, r1⟩ := trodAll_cons r0
  obtain ⟨v2, vs2, d2, ds2, p2, q2, rfl, rfl, rfl, h2, r2⟩ := trodAll_cons r1
  obtain ⟨rfl, rfl, rfl⟩ := trodAll_nil r2
  obtain rfl : args = #[v0, v1, v2] := by cases args; simp_all
  obtain ⟨rfl, rfl⟩ := trodVars_none hV
  obtain ⟨cs0, rfl, _⟩ := okWide_struct Try.underlying116 (hval 0 116 v0 rfl rfl)
  have k0 := h0
  have lt0 := trod_block h0
  obtain ⟨y0, hK0, wf0⟩ := opn_arg (d := (Kd.pair (Kd.slice 175 MFnExactAddressesFrom.k175) (Kd.pair (Kd.int .i64) (Kd.pair (Kd.int .i64) (Kd.slice 3 (Kd.int .i64)))))) (opn_struct Try.underlying116 (by kernel_rfl) (opnFs_cons rfl (opn_slice 175 Try.underlying100 (by kernel_rfl) op175) (opnFs_cons rfl (opn_int Try.underlying3 (by kernel_rfl)) (opnFs_cons rfl (opn_int Try.underlying3 (by kernel_rfl)) (opnFs_one rfl (opn_slice 3 Try.underlying39 (by kernel_rfl) (opn_int Try.underlying3 (by kernel_rfl)))))))) h0
  have e0 : (Value.agg cs0).cells.toList = cs0.toList := by simp [Value.cells]
  rw [e0] at hK0
  clear e0
  obtain ⟨cl0⟩ := cs0
  obtain ⟨_, _, rfl, ⟨A0_1, c0_1, rfl, hl0_1, hr0_1⟩, ⟨_, _, rfl, rfl, ⟨_, _, rfl, rfl, ⟨A0_2, c0_2, rfl, hl0_2, hr0_2⟩⟩⟩⟩ := hK0
  obtain ⟨cs1, rfl, _⟩ := okWide_struct Try.underlying118 (hval 1 118 v1 rfl rfl)
  have k1 := h1
  have lt1 := trod_block h1
  obtain ⟨y1, hK1, wf1⟩ := opn_arg (d := (Kd.pair (Kd.int .i64) (Kd.pair (Kd.int .i64) (Kd.pair (Kd.int .i64) (Kd.int .i64))))) (opn_struct Try.underlying118 (by kernel_rfl) (opnFs_cons rfl (opn_int Try.underlying3 (by kernel_rfl)) (opnFs_one rfl (opn_struct Try.underlying24 (by kernel_rfl) (opnFs_cons rfl (opn_int Try.underlying3 (by kernel_rfl)) (opnFs_cons rfl (opn_int Try.underlying3 (by kernel_rfl)) (opnFs_one rfl (opn_int Try.underlying3 (by kernel_rfl))))))))) h1
  have e1 : (Value.agg cs1).cells.toList = cs1.toList := by simp [Value.cells]
  rw [e1] at hK1
  clear e1
  obtain ⟨cl1⟩ := cs1
  obtain ⟨_, _, rfl, rfl, ⟨_, _, rfl, rfl, ⟨_, _, rfl, rfl, rfl⟩⟩⟩ := hK1
  obtain ⟨a2, rfl, rfl, rfl, w2⟩ := open_int Try.underlying3 (hval 2 3 v2 rfl rfl) h2
  clear hA0 hval0 hsz0
  obtain ⟨k, h⟩ := Pure.FnExactAddressesFrom y0.1 y0.2.1 y0.2.2.1 y0.2.2.2 y1.1 y1.2.1 y1.2.2.1 y1.2.2.2 a2 wf0.1 wf0.2.1 wf0.2.2.1 wf0.2.2.2 wf1.1 wf1.2.1 wf1.2.2.1 wf1.2.2.2 w2
  refine (MFnExactAddressesFrom.laws_FnExactAddressesFrom.calls k _ _ y0.1 y0.2.1 y0.2.2.1 _ _ y0.2.2.2 y1.1 y1.2.1 y1.2.2.1 y1.2.2.2 a2 true W hr0_1 hl0_1 hr0_2 hl0_2 rfl h).mono ?_
  rintro e W' ⟨rfl, bel⟩
  exact ⟨_, rfl, _, _, _, [], _, [], hW', trodAll_mk1 (shut_bool Try.underlying4 _), (trodAll_cons_mk (Below.trod laidOut (by kernel_rfl) (of_decide_eq_true (by kernel_rfl)) k0 bel lt0) (trodAll_cons_mk (Below.trod laidOut (by kernel_rfl) (of_decide_eq_true (by kernel_rfl)) k1 bel lt1) (trodAll_cons_mk (shut_int Try.underlying3 w2) trodAll_mk0))), rfl, bel.frame _, fun h => by cases h⟩
theorem over : Rows.fnExactAddressesFromRow.holds Try.pinned (OpenSpec.ofChange Rows.fnExactAddressesFromSpec) :=
  OpenClaim.holds_of_wide 12 Try.f12 rfl rfl rfl rfl rfl rfl rfl ⟨rfl, rfl, rfl, rfl, rfl⟩ rfl rfl rfl rfl rfl (by kernel_rfl) Try.func12 (by kernel_rfl)
    (of_decide_eq_true (by kernel_rfl)) (by unfold Func.isWrapper; first | (rw [if_pos (by decide +kernel)]; kernel_rfl) | (rw [if_neg (by decide +kernel)]; exact ⟨rfl, rfl⟩))
    (fun os started H enc _ => lifted os started H enc)
theorem proved : Rows.FnExactAddressesFromSaid := over
#print axioms proved
end Go.Proofs.Ytegaambhmpoakaa.fnExactAddressesFrom
namespace Go.Proofs.Ytegaambhmpoakaa
/-- The row, under a short name, for the claim. -/
theorem fnExactAddressesFrom_holds : Rows.FnExactAddressesFromSaid := fnExactAddressesFrom.proved
end Go.Proofs.Ytegaambhmpoakaa
