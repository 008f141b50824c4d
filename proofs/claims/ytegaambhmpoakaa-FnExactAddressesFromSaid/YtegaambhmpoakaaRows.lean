/-
  No cell of these rows narrows 'for every input' (looked for: loops, veiled, ifaces, maps, wideKeys, modest, calm, conditions, laid).
  DERIVED. THE GIVEN ROWS OF THIS SEAT. 11 by the template 'for every input the law returns true; each argument reads behind the call as it read before'; 0 by the template 'total and deterministic' (their statements: YtegaambhmpoakaaTotals.lean).
  GIVEN WITH THE SEED: the statements are not yours to turn. If you find one false, say at which input.
  Laid BY PROGRAM, IN A SANDBOX (cutbox-rows.mjs): the forced cells as the released guide's own fill.sh prints them over the translation ecc2497c1d4499ea… (all of the seat's roots in one cut). By AI agents, Wed Nov 11 2026. No macro, syntax, notation, axiom, sorry.
-/
import Derived.Test.YtegaambhmpoakaaChecked
import GoSem.Claim
import GoSem.ClaimJoined
import GoSem.ClaimMapViews
import Derived.JoinedTies
import Derived.KernelRfl
namespace Go.Proofs.Ytegaambhmpoakaa
/- THE CELL 'sum', in the pinned program and in every row, IS THE sha256 OF THE DUMP (.gsa) THAT YtegaambhmpoakaaProg.lean LOADS. Nothing in Lean hashes anything: it is a label: what it is worth is what the hold of that sum in a sandbox is worth. -/
noncomputable def Try.pinned : Pinned := { name := "ytegaambhmpoakaa", sum := "ecc2497c1d4499ea96a2e71205dda3c6696a373c7452d19566b3898ad4272487", checked := Try.checked }
namespace Rows
def none {H : Type} : Left H := { results := [], args := [] }

/-- 'laws.FnExactNearestAt': WHATEVER THE INPUT: true; the input reads as it did. -/
def fnExactNearestAtSpec : ChangeSpec := { name := "fnExactNearestAt", fn := fun _ => fun
  | [d1, d2, d3] => { results := [.lit (.bool true)], args := [d1, d2, d3] }
  | _ => none }
def fnExactNearestAtRow : OpenClaim := { program := "ytegaambhmpoakaa", sum := "ecc2497c1d4499ea96a2e71205dda3c6696a373c7452d19566b3898ad4272487", func := "loop.example/g03002/laws.FnExactNearestAt", spec := "fnExactNearestAt", unfollowed := true, recurses := true, apart := false }
def FnExactNearestAtSaid : Prop := fnExactNearestAtRow.holds Try.pinned (OpenSpec.ofChange fnExactNearestAtSpec)

/-- ITS FALSE NEIGHBOUR: 'it returns false'. Refute it at one input. -/
def fnExactNearestAtWrong : ChangeSpec := { name := "fnExactNearestAt", fn := fun _ => fun
  | [d1, d2, d3] => { results := [.lit (.bool false)], args := [d1, d2, d3] }
  | _ => none }
def FnExactNearestAtWrongFalsely : Prop := fnExactNearestAtRow.holds Try.pinned (OpenSpec.ofChange fnExactNearestAtWrong)

/-- 'laws.FnVisits': WHATEVER THE INPUT: true; the input reads as it did. -/
def fnVisitsSpec : ChangeSpec := { name := "fnVisits", fn := fun _ => fun
  | [d] => { results := [.lit (.bool true)], args := [d] }
  | _ => none }
def fnVisitsRow : OpenClaim := { program := "ytegaambhmpoakaa", sum := "ecc2497c1d4499ea96a2e71205dda3c6696a373c7452d19566b3898ad4272487", func := "loop.example/g03002/laws.FnVisits", spec := "fnVisits", unfollowed := true, recurses := true, apart := false }
def FnVisitsSaid : Prop := fnVisitsRow.holds Try.pinned (OpenSpec.ofChange fnVisitsSpec)

/-- ITS FALSE NEIGHBOUR: 'it returns false'. Refute it at one input. -/
def fnVisitsWrong : ChangeSpec := { name := "fnVisits", fn := fun _ => fun
  | [d] => { results := [.lit (.bool false)], args := [d] }
  | _ => none }
def FnVisitsWrongFalsely : Prop := fnVisitsRow.holds Try.pinned (OpenSpec.ofChange fnVisitsWrong)

/-- 'laws.FnExactStepState': WHATEVER THE INPUT: true; the input reads as it did. -/
def fnExactStepStateSpec : ChangeSpec := { name := "fnExactStepState", fn := fun _ => fun
  | [d1, d2, d3] => { results := [.lit (.bool true)], args := [d1, d2, d3] }
  | _ => none }
def fnExactStepStateRow : OpenClaim := { program := "ytegaambhmpoakaa", sum := "ecc2497c1d4499ea96a2e71205dda3c6696a373c7452d19566b3898ad4272487", func := "loop.example/g03002/laws.FnExactStepState", spec := "fnExactStepState", unfollowed := true, recurses := true, apart := false }
def FnExactStepStateSaid : Prop := fnExactStepStateRow.holds Try.pinned (OpenSpec.ofChange fnExactStepStateSpec)

/-- ITS FALSE NEIGHBOUR: 'it returns false'. Refute it at one input. -/
def fnExactStepStateWrong : ChangeSpec := { name := "fnExactStepState", fn := fun _ => fun
  | [d1, d2, d3] => { results := [.lit (.bool false)], args := [d1, d2, d3] }
  | _ => none }
def FnExactStepStateWrongFalsely : Prop := fnExactStepStateRow.holds Try.pinned (OpenSpec.ofChange fnExactStepStateWrong)

/-- 'laws.FnExactLearnForm': WHATEVER THE INPUT: true; the input reads as it did. -/
def fnExactLearnFormSpec : ChangeSpec := { name := "fnExactLearnForm", fn := fun _ => fun
  | [d1, d2] => { results := [.lit (.bool true)], args := [d1, d2] }
  | _ => none }
def fnExactLearnFormRow : OpenClaim := { program := "ytegaambhmpoakaa", sum := "ecc2497c1d4499ea96a2e71205dda3c6696a373c7452d19566b3898ad4272487", func := "loop.example/g03002/laws.FnExactLearnForm", spec := "fnExactLearnForm", unfollowed := true, recurses := true, apart := false }
def FnExactLearnFormSaid : Prop := fnExactLearnFormRow.holds Try.pinned (OpenSpec.ofChange fnExactLearnFormSpec)

/-- ITS FALSE NEIGHBOUR: 'it returns false'. Refute it at one input. -/
def fnExactLearnFormWrong : ChangeSpec := { name := "fnExactLearnForm", fn := fun _ => fun
  | [d1, d2] => { results := [.lit (.bool false)], args := [d1, d2] }
  | _ => none }
def FnExactLearnFormWrongFalsely : Prop := fnExactLearnFormRow.holds Try.pinned (OpenSpec.ofChange fnExactLearnFormWrong)

/-- 'laws.FnExactPageSpan': WHATEVER THE INPUT: true; the input reads as it did. -/
def fnExactPageSpanSpec : ChangeSpec := { name := "fnExactPageSpan", fn := fun _ => fun
  | [d1, d2] => { results := [.lit (.bool true)], args := [d1, d2] }
  | _ => none }
def fnExactPageSpanRow : OpenClaim := { program := "ytegaambhmpoakaa", sum := "ecc2497c1d4499ea96a2e71205dda3c6696a373c7452d19566b3898ad4272487", func := "loop.example/g03002/laws.FnExactPageSpan", spec := "fnExactPageSpan", apart := false }
def FnExactPageSpanSaid : Prop := fnExactPageSpanRow.holds Try.pinned (OpenSpec.ofChange fnExactPageSpanSpec)

/-- ITS FALSE NEIGHBOUR: 'it returns false'. Refute it at one input. -/
def fnExactPageSpanWrong : ChangeSpec := { name := "fnExactPageSpan", fn := fun _ => fun
  | [d1, d2] => { results := [.lit (.bool false)], args := [d1, d2] }
  | _ => none }
def FnExactPageSpanWrongFalsely : Prop := fnExactPageSpanRow.holds Try.pinned (OpenSpec.ofChange fnExactPageSpanWrong)

/-- 'laws.FnForms': WHATEVER THE INPUT: true; the input reads as it did. -/
def fnFormsSpec : ChangeSpec := { name := "fnForms", fn := fun _ => fun
  | [d] => { results := [.lit (.bool true)], args := [d] }
  | _ => none }
def fnFormsRow : OpenClaim := { program := "ytegaambhmpoakaa", sum := "ecc2497c1d4499ea96a2e71205dda3c6696a373c7452d19566b3898ad4272487", func := "loop.example/g03002/laws.FnForms", spec := "fnForms", unfollowed := true, recurses := true, apart := false }
def FnFormsSaid : Prop := fnFormsRow.holds Try.pinned (OpenSpec.ofChange fnFormsSpec)

/-- ITS FALSE NEIGHBOUR: 'it returns false'. Refute it at one input. -/
def fnFormsWrong : ChangeSpec := { name := "fnForms", fn := fun _ => fun
  | [d] => { results := [.lit (.bool false)], args := [d] }
  | _ => none }
def FnFormsWrongFalsely : Prop := fnFormsRow.holds Try.pinned (OpenSpec.ofChange fnFormsWrong)

/-- 'laws.FnExactCouldBe': WHATEVER THE INPUT: true; the input reads as it did. -/
def fnExactCouldBeSpec : ChangeSpec := { name := "fnExactCouldBe", fn := fun _ => fun
  | [d1, d2, d3] => { results := [.lit (.bool true)], args := [d1, d2, d3] }
  | _ => none }
def fnExactCouldBeRow : OpenClaim := { program := "ytegaambhmpoakaa", sum := "ecc2497c1d4499ea96a2e71205dda3c6696a373c7452d19566b3898ad4272487", func := "loop.example/g03002/laws.FnExactCouldBe", spec := "fnExactCouldBe", apart := false }
def FnExactCouldBeSaid : Prop := fnExactCouldBeRow.holds Try.pinned (OpenSpec.ofChange fnExactCouldBeSpec)

/-- ITS FALSE NEIGHBOUR: 'it returns false'. Refute it at one input. -/
def fnExactCouldBeWrong : ChangeSpec := { name := "fnExactCouldBe", fn := fun _ => fun
  | [d1, d2, d3] => { results := [.lit (.bool false)], args := [d1, d2, d3] }
  | _ => none }
def FnExactCouldBeWrongFalsely : Prop := fnExactCouldBeRow.holds Try.pinned (OpenSpec.ofChange fnExactCouldBeWrong)

/-- 'laws.FnExactAddCaptures': WHATEVER THE INPUT: true; the input reads as it did. -/
def fnExactAddCapturesSpec : ChangeSpec := { name := "fnExactAddCaptures", fn := fun _ => fun
  | [d1, d2] => { results := [.lit (.bool true)], args := [d1, d2] }
  | _ => none }
def fnExactAddCapturesRow : OpenClaim := { program := "ytegaambhmpoakaa", sum := "ecc2497c1d4499ea96a2e71205dda3c6696a373c7452d19566b3898ad4272487", func := "loop.example/g03002/laws.FnExactAddCaptures", spec := "fnExactAddCaptures", unfollowed := true, recurses := true, apart := false }
def FnExactAddCapturesSaid : Prop := fnExactAddCapturesRow.holds Try.pinned (OpenSpec.ofChange fnExactAddCapturesSpec)

/-- ITS FALSE NEIGHBOUR: 'it returns false'. Refute it at one input. -/
def fnExactAddCapturesWrong : ChangeSpec := { name := "fnExactAddCaptures", fn := fun _ => fun
  | [d1, d2] => { results := [.lit (.bool false)], args := [d1, d2] }
  | _ => none }
def FnExactAddCapturesWrongFalsely : Prop := fnExactAddCapturesRow.holds Try.pinned (OpenSpec.ofChange fnExactAddCapturesWrong)

/-- 'laws.FnExactMixedNodes': WHATEVER THE INPUT: true; the input reads as it did. -/
def fnExactMixedNodesSpec : ChangeSpec := { name := "fnExactMixedNodes", fn := fun _ => fun
  | [d1, d2, d3] => { results := [.lit (.bool true)], args := [d1, d2, d3] }
  | _ => none }
def fnExactMixedNodesRow : OpenClaim := { program := "ytegaambhmpoakaa", sum := "ecc2497c1d4499ea96a2e71205dda3c6696a373c7452d19566b3898ad4272487", func := "loop.example/g03002/laws.FnExactMixedNodes", spec := "fnExactMixedNodes", apart := false }
def FnExactMixedNodesSaid : Prop := fnExactMixedNodesRow.holds Try.pinned (OpenSpec.ofChange fnExactMixedNodesSpec)

/-- ITS FALSE NEIGHBOUR: 'it returns false'. Refute it at one input. -/
def fnExactMixedNodesWrong : ChangeSpec := { name := "fnExactMixedNodes", fn := fun _ => fun
  | [d1, d2, d3] => { results := [.lit (.bool false)], args := [d1, d2, d3] }
  | _ => none }
def FnExactMixedNodesWrongFalsely : Prop := fnExactMixedNodesRow.holds Try.pinned (OpenSpec.ofChange fnExactMixedNodesWrong)

/-- 'laws.FnExactAddressesFrom': WHATEVER THE INPUT: true; the input reads as it did. -/
def fnExactAddressesFromSpec : ChangeSpec := { name := "fnExactAddressesFrom", fn := fun _ => fun
  | [d1, d2, d3] => { results := [.lit (.bool true)], args := [d1, d2, d3] }
  | _ => none }
def fnExactAddressesFromRow : OpenClaim := { program := "ytegaambhmpoakaa", sum := "ecc2497c1d4499ea96a2e71205dda3c6696a373c7452d19566b3898ad4272487", func := "loop.example/g03002/laws.FnExactAddressesFrom", spec := "fnExactAddressesFrom", unfollowed := true, recurses := true, apart := false }
def FnExactAddressesFromSaid : Prop := fnExactAddressesFromRow.holds Try.pinned (OpenSpec.ofChange fnExactAddressesFromSpec)

/-- ITS FALSE NEIGHBOUR: 'it returns false'. Refute it at one input. -/
def fnExactAddressesFromWrong : ChangeSpec := { name := "fnExactAddressesFrom", fn := fun _ => fun
  | [d1, d2, d3] => { results := [.lit (.bool false)], args := [d1, d2, d3] }
  | _ => none }
def FnExactAddressesFromWrongFalsely : Prop := fnExactAddressesFromRow.holds Try.pinned (OpenSpec.ofChange fnExactAddressesFromWrong)

/-- 'laws.FnExactLiveValue': WHATEVER THE INPUT: true; the input reads as it did. -/
def fnExactLiveValueSpec : ChangeSpec := { name := "fnExactLiveValue", fn := fun _ => fun
  | [d1, d2, d3] => { results := [.lit (.bool true)], args := [d1, d2, d3] }
  | _ => none }
def fnExactLiveValueRow : OpenClaim := { program := "ytegaambhmpoakaa", sum := "ecc2497c1d4499ea96a2e71205dda3c6696a373c7452d19566b3898ad4272487", func := "loop.example/g03002/laws.FnExactLiveValue", spec := "fnExactLiveValue", unfollowed := true, recurses := true, apart := false }
def FnExactLiveValueSaid : Prop := fnExactLiveValueRow.holds Try.pinned (OpenSpec.ofChange fnExactLiveValueSpec)

/-- ITS FALSE NEIGHBOUR: 'it returns false'. Refute it at one input. -/
def fnExactLiveValueWrong : ChangeSpec := { name := "fnExactLiveValue", fn := fun _ => fun
  | [d1, d2, d3] => { results := [.lit (.bool false)], args := [d1, d2, d3] }
  | _ => none }
def FnExactLiveValueWrongFalsely : Prop := fnExactLiveValueRow.holds Try.pinned (OpenSpec.ofChange fnExactLiveValueWrong)

/- THE SECOND FORM. 'bulk': how many values and letters a reading holds, each counted each time it is reached (what is shared counts as often as it is met; a slice's spare places count too). A statement '..UptoSaid' is the law's where the arguments, and the package variables that the reading takes, are together of bulk at most 1048576: NARROWER than '..Said'. Prove '..Said' where nothing that the law and all that it calls make is longer than what came in: it says more and counts as full. Else prove '..UptoSaid'. A law counts once. -/
mutual
def uptoBulk {H : Type} : DataW H → Nat
  | .lit (.string bytes) => bytes.length + 1
  | .lit _ => 1
  | .nil => 1
  | .ptr d => uptoBulk d + 1
  | .slice elems spare => uptoBulkAll elems + uptoBulkAll spare + 1
  | .agg parts => uptoBulkAll parts + 1
  | .iface _ d => uptoBulk d + 1
  | .map entries => uptoBulkEntries entries + 1
  | .held _ => 1
def uptoBulkAll {H : Type} : List (DataW H) → Nat
  | [] => 0
  | d :: r => uptoBulk d + uptoBulkAll r
def uptoBulkEntries {H : Type} : List (Lit × DataW H) → Nat
  | [] => 0
  | x :: r => uptoBulkEntry x + uptoBulkEntries r
def uptoBulkEntry {H : Type} : Lit × DataW H → Nat
  | (.string bytes, d) => bytes.length + uptoBulk d + 1
  | (_, d) => uptoBulk d + 1
 end
def uptoSmall : (H : Type) → List (DataW H) → Bool := fun _ ds => decide (uptoBulkAll ds ≤ 1048576)
def OpenSpec.upto (s : _root_.Go.ChangeSpec) : _root_.Go.OpenSpec := { _root_.Go.OpenSpec.ofChange s with cond := some uptoSmall }

/-- 'laws.FnExactNearestAt', WHERE WHAT IT READS IS OF BULK AT MOST 1048576: true; the input reads as it did. -/
def fnExactNearestAtUptoRow : OpenClaim := { program := "ytegaambhmpoakaa", sum := "ecc2497c1d4499ea96a2e71205dda3c6696a373c7452d19566b3898ad4272487", func := "loop.example/g03002/laws.FnExactNearestAt", spec := "fnExactNearestAt", unfollowed := true, recurses := true, apart := false, narrowed := true }
def FnExactNearestAtUptoSaid : Prop := fnExactNearestAtUptoRow.holds Try.pinned (OpenSpec.upto fnExactNearestAtSpec)

/-- 'laws.FnVisits', WHERE WHAT IT READS IS OF BULK AT MOST 1048576: true; the input reads as it did. -/
def fnVisitsUptoRow : OpenClaim := { program := "ytegaambhmpoakaa", sum := "ecc2497c1d4499ea96a2e71205dda3c6696a373c7452d19566b3898ad4272487", func := "loop.example/g03002/laws.FnVisits", spec := "fnVisits", unfollowed := true, recurses := true, apart := false, narrowed := true }
def FnVisitsUptoSaid : Prop := fnVisitsUptoRow.holds Try.pinned (OpenSpec.upto fnVisitsSpec)

/-- 'laws.FnExactStepState', WHERE WHAT IT READS IS OF BULK AT MOST 1048576: true; the input reads as it did. -/
def fnExactStepStateUptoRow : OpenClaim := { program := "ytegaambhmpoakaa", sum := "ecc2497c1d4499ea96a2e71205dda3c6696a373c7452d19566b3898ad4272487", func := "loop.example/g03002/laws.FnExactStepState", spec := "fnExactStepState", unfollowed := true, recurses := true, apart := false, narrowed := true }
def FnExactStepStateUptoSaid : Prop := fnExactStepStateUptoRow.holds Try.pinned (OpenSpec.upto fnExactStepStateSpec)

/-- 'laws.FnExactLearnForm', WHERE WHAT IT READS IS OF BULK AT MOST 1048576: true; the input reads as it did. -/
def fnExactLearnFormUptoRow : OpenClaim := { program := "ytegaambhmpoakaa", sum := "ecc2497c1d4499ea96a2e71205dda3c6696a373c7452d19566b3898ad4272487", func := "loop.example/g03002/laws.FnExactLearnForm", spec := "fnExactLearnForm", unfollowed := true, recurses := true, apart := false, narrowed := true }
def FnExactLearnFormUptoSaid : Prop := fnExactLearnFormUptoRow.holds Try.pinned (OpenSpec.upto fnExactLearnFormSpec)

/-- 'laws.FnExactPageSpan', WHERE WHAT IT READS IS OF BULK AT MOST 1048576: true; the input reads as it did. -/
def fnExactPageSpanUptoRow : OpenClaim := { program := "ytegaambhmpoakaa", sum := "ecc2497c1d4499ea96a2e71205dda3c6696a373c7452d19566b3898ad4272487", func := "loop.example/g03002/laws.FnExactPageSpan", spec := "fnExactPageSpan", apart := false, narrowed := true }
def FnExactPageSpanUptoSaid : Prop := fnExactPageSpanUptoRow.holds Try.pinned (OpenSpec.upto fnExactPageSpanSpec)

/-- 'laws.FnForms', WHERE WHAT IT READS IS OF BULK AT MOST 1048576: true; the input reads as it did. -/
def fnFormsUptoRow : OpenClaim := { program := "ytegaambhmpoakaa", sum := "ecc2497c1d4499ea96a2e71205dda3c6696a373c7452d19566b3898ad4272487", func := "loop.example/g03002/laws.FnForms", spec := "fnForms", unfollowed := true, recurses := true, apart := false, narrowed := true }
def FnFormsUptoSaid : Prop := fnFormsUptoRow.holds Try.pinned (OpenSpec.upto fnFormsSpec)

/-- 'laws.FnExactCouldBe', WHERE WHAT IT READS IS OF BULK AT MOST 1048576: true; the input reads as it did. -/
def fnExactCouldBeUptoRow : OpenClaim := { program := "ytegaambhmpoakaa", sum := "ecc2497c1d4499ea96a2e71205dda3c6696a373c7452d19566b3898ad4272487", func := "loop.example/g03002/laws.FnExactCouldBe", spec := "fnExactCouldBe", apart := false, narrowed := true }
def FnExactCouldBeUptoSaid : Prop := fnExactCouldBeUptoRow.holds Try.pinned (OpenSpec.upto fnExactCouldBeSpec)

/-- 'laws.FnExactAddCaptures', WHERE WHAT IT READS IS OF BULK AT MOST 1048576: true; the input reads as it did. -/
def fnExactAddCapturesUptoRow : OpenClaim := { program := "ytegaambhmpoakaa", sum := "ecc2497c1d4499ea96a2e71205dda3c6696a373c7452d19566b3898ad4272487", func := "loop.example/g03002/laws.FnExactAddCaptures", spec := "fnExactAddCaptures", unfollowed := true, recurses := true, apart := false, narrowed := true }
def FnExactAddCapturesUptoSaid : Prop := fnExactAddCapturesUptoRow.holds Try.pinned (OpenSpec.upto fnExactAddCapturesSpec)

/-- 'laws.FnExactMixedNodes', WHERE WHAT IT READS IS OF BULK AT MOST 1048576: true; the input reads as it did. -/
def fnExactMixedNodesUptoRow : OpenClaim := { program := "ytegaambhmpoakaa", sum := "ecc2497c1d4499ea96a2e71205dda3c6696a373c7452d19566b3898ad4272487", func := "loop.example/g03002/laws.FnExactMixedNodes", spec := "fnExactMixedNodes", apart := false, narrowed := true }
def FnExactMixedNodesUptoSaid : Prop := fnExactMixedNodesUptoRow.holds Try.pinned (OpenSpec.upto fnExactMixedNodesSpec)

/-- 'laws.FnExactAddressesFrom', WHERE WHAT IT READS IS OF BULK AT MOST 1048576: true; the input reads as it did. -/
def fnExactAddressesFromUptoRow : OpenClaim := { program := "ytegaambhmpoakaa", sum := "ecc2497c1d4499ea96a2e71205dda3c6696a373c7452d19566b3898ad4272487", func := "loop.example/g03002/laws.FnExactAddressesFrom", spec := "fnExactAddressesFrom", unfollowed := true, recurses := true, apart := false, narrowed := true }
def FnExactAddressesFromUptoSaid : Prop := fnExactAddressesFromUptoRow.holds Try.pinned (OpenSpec.upto fnExactAddressesFromSpec)

/-- 'laws.FnExactLiveValue', WHERE WHAT IT READS IS OF BULK AT MOST 1048576: true; the input reads as it did. -/
def fnExactLiveValueUptoRow : OpenClaim := { program := "ytegaambhmpoakaa", sum := "ecc2497c1d4499ea96a2e71205dda3c6696a373c7452d19566b3898ad4272487", func := "loop.example/g03002/laws.FnExactLiveValue", spec := "fnExactLiveValue", unfollowed := true, recurses := true, apart := false, narrowed := true }
def FnExactLiveValueUptoSaid : Prop := fnExactLiveValueUptoRow.holds Try.pinned (OpenSpec.upto fnExactLiveValueSpec)

end Rows
end Go.Proofs.Ytegaambhmpoakaa
