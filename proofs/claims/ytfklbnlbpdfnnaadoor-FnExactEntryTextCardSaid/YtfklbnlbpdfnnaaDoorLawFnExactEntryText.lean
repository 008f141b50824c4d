/- The row of the law FnExactEntryText: whatever the input, the call returns true, and each argument reads behind the call as it read before. The table that strconv.Itoa reads is tied to the program's text by the card. No other condition. -/
import Derived.Test.YtfklbnlbpdfnnaaDoorRows
import Derived.Test.YtfklbnlbpdfnnaaDoorMFnExactEntryTextx2
import Derived.Test.YtfklbnlbpdfnnaaDoorPureFnExactEntryText
import Derived.Test.YtfklbnlbpdfnnaaDoorOpen
import Derived.WalkKit
import Derived.ProofKit
import Derived.OpenShut
import Derived.ShutString
import Derived.ChangeOld
import Derived.Below
import Derived.SizedLaws
import Derived.Carry
import Derived.LaidMore
import Derived.Stop.Joined
import Derived.Stop.LaidErr
import Derived.SevenTiedAt
import Derived.Test.YtfklbnlbpdfnnaaDoorCards
import Derived.Test.YtfklbnlbpdfnnaaDoorTie
namespace Go.Proofs.YtfklbnlbpdfnnaaDoor.fnExactEntryText
open Go.ChangeShapes Go.WideShapes Go.ChangeAt Go.RowKit
open Go.Proofs.YtfklbnlbpdfnnaaDoor.Open Go.Proofs.YtfklbnlbpdfnnaaDoorW.PrintWords Go.Proofs.YtfklbnlbpdfnnaaDoorW.PrintMore Go.Proofs.YtfklbnlbpdfnnaaDoor.MFnExactEntryText
set_option linter.unusedVariables false
set_option linter.unusedSimpArgs false
theorem own : ownKnob Tryd.prog.godebug = none := by kernel_rfl
theorem gTab : Tryd.prog.globalNamed "internal/strconv.uint64pow10" = some 0 := by kernel_rfl
theorem tTab : (Tryd.prog.globals[0]?).map (·.type) = some 49 := by kernel_rfl
def laid : List (String × DataW Unit) := [("math/bits.deBruijn32tab", Rows.laid_math_bits_deBruijn32tab), ("math/bits.deBruijn64tab", Rows.laid_math_bits_deBruijn64tab), ("internal/strconv.uint64pow10", Rows.laid_internal_strconv_uint64pow10)]
theorem door_met (os : Os) (args : Array Value) : laidMetH Tryd.prog laid ((World.doorLaid Tryd.prog 24 os).forCall (fun _ _ => 0) ⟨#[], args, []⟩).memory :=
  laidMetH_of_parts3 (fuel := 8) (laidMet_of_run' 8 (by kernel_rfl) (by kernel_rfl)) (by kernel_rfl) (by kernel_rfl)
/-- What the condition gives: strconv's table of powers of ten. -/
theorem of_laid {W : World} (h : laidMetH Tryd.prog laid W) : Lib.TabIs Tryd.prog W "internal/strconv.uint64pow10" .u64 Lib.pow10Tab := by
  rw [MakeChecks.laidMetH_plain _ _ _ (by kernel_rfl)] at h
  have h2 : laidMet Tryd.prog [("internal/strconv.uint64pow10", Lib.tabData .u64 Lib.pow10Tab)] W := (laidMet.tail h).tail
  exact Lib.tabIs_of_head gTab tTab Tryd.underlying49 Tryd.underlying42 (by kernel_rfl) (by kernel_rfl) h2
theorem laidOut : laidOutB Tryd.prog = true := by kernel_rfl
set_option maxRecDepth 100000 in
theorem lifted (os : Os) (started : os.Started) (H : Type) (enc : TypeId × Value → H) :
    ReturnsInHanded {} Tryd.checked os 3 .any (fun w args => (Rows.fnExactEntryTextSpec.pre enc Tryd.prog Tryd.f3 [] false w args ∧ laidMetH Tryd.prog laid w) ∧ sizedMet enc Tryd.prog Tryd.f3 (OpenSpec.ofChange Rows.fnExactEntryTextSpec) false w args) (Rows.fnExactEntryTextSpec.post enc Tryd.prog Tryd.f3 false true false false) := by
  refine returnsInHanded_of_change_and (C := Tryd.checked) (X := fun w _ => laidMetH Tryd.prog laid w) (fun _ _ _ hh h => h.of_heap hh) own started (by kernel_rfl) Tryd.func3
    (ChangeSpec.witness_shaped (enc := enc) (C := Tryd.checked) (os := os) (X := fun w _ => laidMetH Tryd.prog laid w) false (World.doorLaid Tryd.prog 24 os) #[.agg #[.int .i64 0, .int .i64 0, .int .i64 0, .int .i64 0, .int .i64 0]] 8 rfl (World.shaped_of_RefB (by kernel_rfl) (by kernel_rfl)) (by kernel_rfl) (by kernel_rfl) (by kernel_rfl) (door_met os _)) ?_
  intro W base args ds gs before hval0 hW hcnd hsz0 hL _
  have hval : ∀ (j : Nat) t v, Tryd.f3.params[j]? = some t → args[j]? = some v → Value.okWide Tryd.prog W .any base t v := hval0
  have hW' := hW
  obtain ⟨p, q, hA0, hV, rfl, hfz, hnd⟩ := hW
  have hA : DataW.TrodAll enc Tryd.prog W 0 (fun _ => true) true Tryd.f3.params.toList args.toList ds p := hA0
  rw [Tryd.params3] at hA hval
  obtain ⟨v0, vs0, d0, ds0, p0, q0, hargs, rfl, rfl, h0, r0⟩ := trodAll_cons hA
  obtain ⟨rfl, rfl, rfl⟩ := trodAll_nil r0
  obtain rfl : args = #[v0] := by cases args; simp_all
  obtain ⟨rfl, rfl⟩ := trodVars_none hV
  obtain ⟨cs0, rfl, _⟩ := okWide_struct Tryd.underlying25 (hval 0 25 v0 rfl rfl)
  have k0 := h0
  have lt0 := trod_block h0
  obtain ⟨y0, hK0, wf0⟩ := opn_arg (d := (Kd.pair (Kd.int .i64) (Kd.pair (Kd.pair (Kd.int .i64) (Kd.pair (Kd.int .i64) (Kd.int .i64))) (Kd.int .i64)))) (opn_struct Tryd.underlying25 (by kernel_rfl) (opnFs_cons rfl (opn_int Tryd.underlying3 (by kernel_rfl)) (opnFs_cons rfl (opn_struct Tryd.underlying23 (by kernel_rfl) (opnFs_cons rfl (opn_int Tryd.underlying3 (by kernel_rfl)) (opnFs_cons rfl (opn_int Tryd.underlying3 (by kernel_rfl)) (opnFs_one rfl (opn_int Tryd.underlying3 (by kernel_rfl)))))) (opnFs_one rfl (opn_int Tryd.underlying3 (by kernel_rfl)))))) h0
  have e0 : (Value.agg cs0).cells.toList = cs0.toList := by simp [Value.cells]
  rw [e0] at hK0
  clear e0
  obtain ⟨cl0⟩ := cs0
  obtain ⟨_, _, rfl, rfl, ⟨_, _, rfl, ⟨_, _, rfl, rfl, ⟨_, _, rfl, rfl, rfl⟩⟩, rfl⟩⟩ := hK0
  clear hA0 hval0 hsz0
  obtain ⟨k, h⟩ := Pure.FnExactEntryText y0.1 y0.2.1.1 y0.2.1.2.1 y0.2.1.2.2 y0.2.2 wf0.1 wf0.2.1.1 wf0.2.1.2.1 wf0.2.1.2.2 wf0.2.2
  refine (MFnExactEntryText.laws_FnExactEntryText.calls k y0.1 y0.2.1.1 y0.2.1.2.1 y0.2.1.2.2 y0.2.2 true W  rfl h ⟨Lib.tabBelow_of_tabIs (of_laid hL)⟩).mono ?_
  rintro e W' ⟨rfl, bel⟩
  exact ⟨_, rfl, _, _, _, [], _, [], hW', trodAll_mk1 (shut_bool Tryd.underlying4 _), (trodAll_cons_mk (Below.trod laidOut (by kernel_rfl) (of_decide_eq_true (by kernel_rfl)) k0 bel lt0) trodAll_mk0), rfl, bel.frame _, fun h => by cases h⟩
theorem over : Rows.fnExactEntryTextRow.holds Tryd.pinned (OpenSpec.ofChange Rows.fnExactEntryTextSpec) :=
  OpenClaim.holds_of_wide 3 Tryd.f3 rfl rfl rfl rfl rfl rfl rfl ⟨rfl, rfl, rfl, rfl, rfl⟩ rfl rfl rfl rfl rfl (by kernel_rfl) Tryd.func3 (by kernel_rfl)
    (of_decide_eq_true (by kernel_rfl)) (by unfold Func.isWrapper; first | (rw [if_pos (by decide +kernel)]; kernel_rfl) | (rw [if_neg (by decide +kernel)]; exact ⟨rfl, rfl⟩))
    (fun os started H enc _ => lifted os started H enc)
theorem proved : Rows.FnExactEntryTextSaid := over
#print axioms proved
end Go.Proofs.YtfklbnlbpdfnnaaDoor.fnExactEntryText
namespace Go.Proofs.YtfklbnlbpdfnnaaDoor
/-- The tied card. -/
theorem fnExactEntryText_holds : Rows.FnExactEntryTextCardSaid :=
  Claim7.holds_tied_plain_at .later [] [.data, .data, .data] true (true, "1ef306d07d3e4caea538a854158affe02fb16a38f49078a61f4880f9cfc024d4") false
    fnExactEntryText.proved (fun _ h => by cases h) (by kernel_rfl) (fun _ h => by cases h) fnExactEntryText_row_tie rfl ⟨rfl, rfl⟩ (by kernel_rfl) rfl
    (fun f fn hf hfn => by
      obtain rfl : f = 3 := Option.some.inj ((show Tryd.prog.funcNamed "loop.example/g03002/laws.FnExactEntryText" = some 3 by kernel_rfl).symm.trans hf) |>.symm
      obtain rfl : fn = Tryd.f3 := (Option.some.inj (Tryd.func3.symm.trans hfn)).symm
      exact ⟨by kernel_rfl, fun j t ht => by
        rw [Tryd.params3] at ht
        have hm : t ∈ [25] := by simpa using Array.mem_of_getElem? ht
        have hall : ([25].all fun u => !Tryd.prog.wantsStandIn u) = true := by kernel_rfl
        exact (show Tryd.prog.wantsStandIn t = false by simpa using List.all_eq_true.1 hall t hm)⟩)
    (by kernel_rfl)
#print axioms fnExactEntryText_holds
end Go.Proofs.YtfklbnlbpdfnnaaDoor
