/- The row of the law FnExactIsMarked: whatever the input, the call returns true, and each argument reads behind the call as it read before. No condition. -/
import Derived.Test.YtdpkidjddlnafaaRows
import Derived.Test.YtdpkidjddlnafaaMFnExactIsMarkedx22
import Derived.Test.YtdpkidjddlnafaaPureFnExactIsMarked
import Derived.Test.YtdpkidjddlnafaaOpen
import Derived.WalkKit
import Derived.ProofKit
import Derived.OpenShut
import Derived.ShutString
import Derived.ChangeOld
import Derived.Below
import Derived.SizedLaws
import Derived.Carry
namespace Go.Proofs.Ytdpkidjddlnafaa.fnExactIsMarked
open Go.ChangeShapes Go.WideShapes Go.ChangeAt Go.RowKit
open Go.Proofs.Ytdpkidjddlnafaa.Open Go.Proofs.YtdpkidjddlnafaaW.PrintWords Go.Proofs.Ytdpkidjddlnafaa.MFnExactIsMarked
set_option linter.unusedVariables false
set_option linter.unusedSimpArgs false
theorem own : ownKnob Try.prog.godebug = none := by kernel_rfl
theorem laidOut : laidOutB Try.prog = true := by kernel_rfl
theorem op152 {H : Type} {enc : TypeId × Value → H} {W : World} : Opn enc Try.prog W 152 k152 Pure.W152 := opn_iso (f := fun x : S152 => (x.f0, x.f1)) (fun p => ⟨p.1, p.2⟩) (fun _ => rfl) (opn_struct Try.underlying152 (by kernel_rfl) (opnFs_cons rfl (opn_int Try.underlying3 (by kernel_rfl)) (opnFs_one rfl (opn_int Try.underlying3 (by kernel_rfl)))))
set_option maxRecDepth 100000 in
theorem lifted (os : Os) (started : os.Started) (H : Type) (enc : TypeId × Value → H) :
    ReturnsInHanded {} Try.checked os 6 .any (Rows.fnExactIsMarkedSpec.pre6 enc Try.prog Try.f6 Rows.fnExactIsMarkedRow.domain false) (Rows.fnExactIsMarkedSpec.post enc Try.prog Try.f6 false true false false) := by
  refine returnsInHanded_of_change_sized (C := Try.checked) own started (by kernel_rfl) Try.func6
    (ChangeSpec.witness6 (enc := enc) (C := Try.checked) false ⟨#[], #[.agg #[.int .i64 0, .slice none 0 0, .slice none 0 0, .slice none 0 0, .slice none 0 0, .slice none 0 0, .int .i64 0]], []⟩ 8 (by kernel_rfl) (by kernel_rfl) (by kernel_rfl) (by kernel_rfl)) ?_
  intro W base args ds gs before hval0 hW hcnd hsz0 _
  have hval : ∀ (j : Nat) t v, Try.f6.params[j]? = some t → args[j]? = some v → Value.okWide Try.prog W .any base t v := hval0
  have hW' := hW
  obtain ⟨p, q, hA0, hV, rfl, hfz, hnd⟩ := hW
  have hA : DataW.TrodAll enc Try.prog W 0 (fun _ => true) true Try.f6.params.toList args.toList ds p := hA0
  rw [Try.params6] at hA hval
  obtain ⟨v0, vs0, d0, ds0, p0, q0, hargs, rfl, rfl, h0, r0⟩ := trodAll_cons hA
  obtain ⟨rfl, rfl, rfl⟩ := trodAll_nil r0
  obtain rfl : args = #[v0] := by cases args; simp_all
  obtain ⟨rfl, rfl⟩ := trodVars_none hV
  obtain ⟨cs0, rfl, _⟩ := okWide_struct Try.underlying61 (hval 0 61 v0 rfl rfl)
  have k0 := h0
  have lt0 := trod_block h0
  obtain ⟨y0, hK0, wf0⟩ := opn_arg (d := (Kd.pair (Kd.pair (Kd.int .i64) (Kd.pair (Kd.slice 3 (Kd.int .i64)) (Kd.pair (Kd.slice 3 (Kd.int .i64)) (Kd.slice 3 (Kd.int .i64))))) (Kd.pair (Kd.slice 152 MFnExactIsMarked.k152) (Kd.pair (Kd.slice 3 (Kd.int .i64)) (Kd.int .i64))))) (opn_struct Try.underlying61 (by kernel_rfl) (opnFs_cons rfl (opn_struct Try.underlying58 (by kernel_rfl) (opnFs_cons rfl (opn_int Try.underlying3 (by kernel_rfl)) (opnFs_cons rfl (opn_slice 3 Try.underlying29 (by kernel_rfl) (opn_int Try.underlying3 (by kernel_rfl))) (opnFs_cons rfl (opn_slice 3 Try.underlying29 (by kernel_rfl) (opn_int Try.underlying3 (by kernel_rfl))) (opnFs_one rfl (opn_slice 3 Try.underlying29 (by kernel_rfl) (opn_int Try.underlying3 (by kernel_rfl)))))))) (opnFs_cons rfl (opn_slice 152 Try.underlying59 (by kernel_rfl) op152) (opnFs_cons rfl (opn_slice 3 Try.underlying29 (by kernel_rfl) (opn_int Try.underlying3 (by kernel_rfl))) (opnFs_one rfl (opn_int Try.underlying3 (by kernel_rfl))))))) h0
  have e0 : (Value.agg cs0).cells.toList = cs0.toList := by simp [Value.cells]
  rw [e0] at hK0
  clear e0
  obtain ⟨cl0⟩ := cs0
  obtain ⟨_, _, rfl, ⟨_, _, rfl, rfl, ⟨_, _, rfl, ⟨A0_1, c0_1, rfl, hl0_1, hr0_1⟩, ⟨_, _, rfl, ⟨A0_2, c0_2, rfl, hl0_2, hr0_2⟩, ⟨A0_3, c0_3, rfl, hl0_3, hr0_3⟩⟩⟩⟩, ⟨_, _, rfl, ⟨A0_4, c0_4, rfl, hl0_4, hr0_4⟩, ⟨_, _, rfl, ⟨A0_5, c0_5, rfl, hl0_5, hr0_5⟩, rfl⟩⟩⟩ := hK0
  clear hA0 hval0 hsz0
  obtain ⟨k, h⟩ := Pure.FnExactIsMarked y0.1.1 y0.1.2.1 y0.1.2.2.1 y0.1.2.2.2 y0.2.1 y0.2.2.1 y0.2.2.2 wf0.1.1 wf0.1.2.1 wf0.1.2.2.1 wf0.1.2.2.2 wf0.2.1 wf0.2.2.1 wf0.2.2.2
  refine (MFnExactIsMarked.laws_FnExactIsMarked.calls k y0.1.1 _ _ y0.1.2.1 _ _ y0.1.2.2.1 _ _ y0.1.2.2.2 _ _ y0.2.1 _ _ y0.2.2.1 y0.2.2.2 true W hr0_1 hl0_1 hr0_2 hl0_2 hr0_3 hl0_3 hr0_4 hl0_4 hr0_5 hl0_5 rfl h).mono ?_
  rintro e W' ⟨rfl, bel⟩
  exact ⟨_, rfl, _, _, _, [], _, [], hW', trodAll_mk1 (shut_bool Try.underlying4 _), (trodAll_cons_mk (Below.trod laidOut (by kernel_rfl) (of_decide_eq_true (by kernel_rfl)) k0 bel lt0) trodAll_mk0), rfl, bel.frame _, fun h => by cases h⟩
theorem over : Rows.fnExactIsMarkedRow.holds Try.pinned (OpenSpec.ofChange Rows.fnExactIsMarkedSpec) :=
  OpenClaim.holds_of_wide 6 Try.f6 rfl rfl rfl rfl rfl rfl rfl ⟨rfl, rfl, rfl, rfl, rfl⟩ rfl rfl rfl rfl rfl (by kernel_rfl) Try.func6 (by kernel_rfl)
    (of_decide_eq_true (by kernel_rfl)) (by unfold Func.isWrapper; first | (rw [if_pos (by decide +kernel)]; kernel_rfl) | (rw [if_neg (by decide +kernel)]; exact ⟨rfl, rfl⟩))
    (fun os started H enc _ => lifted os started H enc)
theorem proved : Rows.FnExactIsMarkedSaid := over
#print axioms proved
end Go.Proofs.Ytdpkidjddlnafaa.fnExactIsMarked
namespace Go.Proofs.Ytdpkidjddlnafaa
/-- The row, under a short name, for the claim. -/
theorem fnExactIsMarked_holds : Rows.FnExactIsMarkedSaid := fnExactIsMarked.proved
end Go.Proofs.Ytdpkidjddlnafaa
