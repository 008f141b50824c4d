/- The row of the law FnExactTraceReplay: whatever the input, the call returns true, and each argument reads behind the call as it read before. No condition. -/
import Derived.Test.YtmhonflpbokkeaaRows
import Derived.Test.YtmhonflpbokkeaaMFnExactTraceReplayx90
import Derived.Test.YtmhonflpbokkeaaPureFnExactTraceReplay
import Derived.Test.YtmhonflpbokkeaaOpen
import Derived.WalkKit
import Derived.ProofKit
import Derived.OpenShut
import Derived.ShutString
import Derived.ChangeOld
import Derived.Below
import Derived.SizedLaws
import Derived.Carry
namespace Go.Proofs.Ytmhonflpbokkeaa.fnExactTraceReplay
open Go.ChangeShapes Go.WideShapes Go.ChangeAt Go.RowKit
open Go.Proofs.Ytmhonflpbokkeaa.Open Go.Proofs.YtmhonflpbokkeaaW.PrintWords Go.Proofs.Ytmhonflpbokkeaa.MFnExactTraceReplay
set_option linter.unusedVariables false
set_option linter.unusedSimpArgs false
theorem own : ownKnob Try.prog.godebug = none := by kernel_rfl
theorem laidOut : laidOutB Try.prog = true := by kernel_rfl
theorem op105 {H : Type} {enc : TypeId × Value → H} {W : World} : Opn enc Try.prog W 105 k105 Pure.W105 := opn_iso (f := fun x : S105 => (x.f0, x.f1, x.f2, x.f3)) (fun p => ⟨p.1, p.2.1, p.2.2.1, p.2.2.2⟩) (fun _ => rfl) (opn_struct Try.underlying105 (by kernel_rfl) (opnFs_cons rfl (opn_int Try.underlying3 (by kernel_rfl)) (opnFs_cons rfl (opn_int Try.underlying3 (by kernel_rfl)) (opnFs_cons rfl (opn_int Try.underlying3 (by kernel_rfl)) (opnFs_one rfl (opn_int Try.underlying3 (by kernel_rfl)))))))
theorem op109 {H : Type} {enc : TypeId × Value → H} {W : World} : Opn enc Try.prog W 109 k109 Pure.W109 := opn_iso (f := fun x : S109 => (x.f0, x.f1, x.f2)) (fun p => ⟨p.1, p.2.1, p.2.2⟩) (fun _ => rfl) (opn_struct Try.underlying109 (by kernel_rfl) (opnFs_cons rfl (opn_int Try.underlying3 (by kernel_rfl)) (opnFs_cons rfl (opn_int Try.underlying3 (by kernel_rfl)) (opnFs_one rfl (opn_int Try.underlying3 (by kernel_rfl))))))
theorem op111 {H : Type} {enc : TypeId × Value → H} {W : World} : Opn enc Try.prog W 111 k111 Pure.W111 := opn_iso (f := fun x : S111 => (x.f0, x.f1, x.f2)) (fun p => ⟨p.1, p.2.1, p.2.2⟩) (fun _ => rfl) (opn_struct Try.underlying111 (by kernel_rfl) (opnFs_cons rfl (opn_int Try.underlying3 (by kernel_rfl)) (opnFs_cons rfl op109 (opnFs_one rfl (opn_int Try.underlying3 (by kernel_rfl))))))
set_option maxRecDepth 100000 in
theorem lifted (os : Os) (started : os.Started) (H : Type) (enc : TypeId × Value → H) :
    ReturnsInHanded {} Try.checked os 3 .any (Rows.fnExactTraceReplaySpec.pre6 enc Try.prog Try.f3 Rows.fnExactTraceReplayRow.domain false) (Rows.fnExactTraceReplaySpec.post enc Try.prog Try.f3 false true false false) := by
  refine returnsInHanded_of_change_sized (C := Try.checked) own started (by kernel_rfl) Try.func3
    (ChangeSpec.witness6 (enc := enc) (C := Try.checked) false ⟨#[], #[.slice none 0 0, .slice none 0 0], []⟩ 8 (by kernel_rfl) (by kernel_rfl) (by kernel_rfl) (by kernel_rfl)) ?_
  intro W base args ds gs before hval0 hW hcnd hsz0 _
  have hval : ∀ (j : Nat) t v, Try.f3.params[j]? = some t → args[j]? = some v → Value.okWide Try.prog W .any base t v := hval0
  have hW' := hW
  obtain ⟨p, q, hA0, hV, rfl, hfz, hnd⟩ := hW
  have hA : DataW.TrodAll enc Try.prog W 0 (fun _ => true) true Try.f3.params.toList args.toList ds p := hA0
  rw [Try.params3] at hA hval
  obtain ⟨v0, vs0, d0, ds0, p0, q0, hargs, rfl, rfl, h0, r0⟩ := trodAll_cons hA
  obtain ⟨v1, vs1, d1, ds1, p1, q1, rfl, rfl, rfl, h1, r1⟩ := trodAll_cons r0
  obtain ⟨rfl, rfl, rfl⟩ := trodAll_nil r1
  obtain rfl : args = #[v0, v1] := by cases args; simp_all
  obtain ⟨rfl, rfl⟩ := trodVars_none hV
  obtain ⟨a0, len0, cap0, rfl⟩ := okWide_slice Try.underlying22 (hval 0 22 v0 rfl rfl)
  have k0 := h0
  have lt0 := trod_block h0
  obtain ⟨l0, ⟨A0, c0, e0, hl0, hr0⟩, wf0⟩ := opn_arg (d := (Kd.slice 105 MFnExactTraceReplay.k105)) (opn_slice 105 Try.underlying22 (by kernel_rfl) op105) h0
  simp [Value.cells] at e0
  obtain ⟨rfl, rfl, rfl⟩ := e0
  obtain ⟨a1, len1, cap1, rfl⟩ := okWide_slice Try.underlying23 (hval 1 23 v1 rfl rfl)
  have k1 := h1
  have lt1 := trod_block h1
  obtain ⟨l1, ⟨A1, c1, e1, hl1, hr1⟩, wf1⟩ := opn_arg (d := (Kd.slice 111 MFnExactTraceReplay.k111)) (opn_slice 111 Try.underlying23 (by kernel_rfl) op111) h1
  simp [Value.cells] at e1
  obtain ⟨rfl, rfl, rfl⟩ := e1
  clear hA0 hval0 hsz0
  obtain ⟨k, h⟩ := Pure.FnExactTraceReplay l0 l1 wf0 wf1
  refine (MFnExactTraceReplay.laws_FnExactTraceReplay.calls k _ _ l0 _ _ l1 true W hr0 hl0 hr1 hl1 rfl h).mono ?_
  rintro e W' ⟨rfl, bel⟩
  exact ⟨_, rfl, _, _, _, [], _, [], hW', trodAll_mk1 (shut_bool Try.underlying4 _), (trodAll_cons_mk (Below.trod laidOut (by kernel_rfl) (of_decide_eq_true (by kernel_rfl)) k0 bel lt0) (trodAll_cons_mk (Below.trod laidOut (by kernel_rfl) (of_decide_eq_true (by kernel_rfl)) k1 bel lt1) trodAll_mk0)), rfl, bel.frame _, fun h => by cases h⟩
theorem over : Rows.fnExactTraceReplayRow.holds Try.pinned (OpenSpec.ofChange Rows.fnExactTraceReplaySpec) :=
  OpenClaim.holds_of_wide 3 Try.f3 rfl rfl rfl rfl rfl rfl rfl ⟨rfl, rfl, rfl, rfl, rfl⟩ rfl rfl rfl rfl rfl (by kernel_rfl) Try.func3 (by kernel_rfl)
    (of_decide_eq_true (by kernel_rfl)) (by unfold Func.isWrapper; first | (rw [if_pos (by decide +kernel)]; kernel_rfl) | (rw [if_neg (by decide +kernel)]; exact ⟨rfl, rfl⟩))
    (fun os started H enc _ => lifted os started H enc)
theorem proved : Rows.FnExactTraceReplaySaid := over
#print axioms proved
end Go.Proofs.Ytmhonflpbokkeaa.fnExactTraceReplay
namespace Go.Proofs.Ytmhonflpbokkeaa
/-- The row, under a short name, for the claim. -/
theorem fnExactTraceReplay_holds : Rows.FnExactTraceReplaySaid := fnExactTraceReplay.proved
end Go.Proofs.Ytmhonflpbokkeaa
