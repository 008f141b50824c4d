/-
  No cell of these rows narrows 'for every input' (looked for: loops, veiled, ifaces, maps, wideKeys, modest, calm, conditions, laid).
  DERIVED. THE GIVEN ROWS OF THIS SEAT. 12 by the template 'for every input the law returns true; each argument reads behind the call as it read before'; 0 by the template 'total and deterministic' (their statements: YtcjhkpggdgjpaaaTotals.lean).
  GIVEN WITH THE SEED: the statements are not yours to turn. If you find one false, say at which input.
  Laid BY PROGRAM, IN A SANDBOX (cutbox-rows.mjs): the forced cells as the released guide's own fill.sh prints them over the translation 9bee830ea0ab4112… (all of the seat's roots in one cut). By AI agents, Wed Nov 11 2026. No macro, syntax, notation, axiom, sorry.
-/
import Derived.Test.YtcjhkpggdgjpaaaChecked
import GoSem.Claim
import GoSem.ClaimJoined
import GoSem.ClaimMapViews
import Derived.JoinedTies
import Derived.KernelRfl
namespace Go.Proofs.Ytcjhkpggdgjpaaa
/- THE CELL 'sum', in the pinned program and in every row, IS THE sha256 OF THE DUMP (.gsa) THAT YtcjhkpggdgjpaaaProg.lean LOADS. Nothing in Lean hashes anything: it is a label: what it is worth is what the hold of that sum in a sandbox is worth. -/
noncomputable def Try.pinned : Pinned := { name := "ytcjhkpggdgjpaaa", sum := "9bee830ea0ab4112a8180b58595a3ccde66405d1e4ddf0caa8806709d8eb1a51", checked := Try.checked }
namespace Rows
def none {H : Type} : Left H := { results := [], args := [] }

/-- 'laws.FnExactIsState': WHATEVER THE INPUT: true; the input reads as it did. -/
def fnExactIsStateSpec : ChangeSpec := { name := "fnExactIsState", fn := fun _ => fun
  | [d] => { results := [.lit (.bool true)], args := [d] }
  | _ => none }
def fnExactIsStateRow : OpenClaim := { program := "ytcjhkpggdgjpaaa", sum := "9bee830ea0ab4112a8180b58595a3ccde66405d1e4ddf0caa8806709d8eb1a51", func := "loop.example/g03002/laws.FnExactIsState", spec := "fnExactIsState", apart := false }
def FnExactIsStateSaid : Prop := fnExactIsStateRow.holds Try.pinned (OpenSpec.ofChange fnExactIsStateSpec)

/-- ITS FALSE NEIGHBOUR: 'it returns false'. Refute it at one input. -/
def fnExactIsStateWrong : ChangeSpec := { name := "fnExactIsState", fn := fun _ => fun
  | [d] => { results := [.lit (.bool false)], args := [d] }
  | _ => none }
def FnExactIsStateWrongFalsely : Prop := fnExactIsStateRow.holds Try.pinned (OpenSpec.ofChange fnExactIsStateWrong)

/-- 'laws.FnExactEqualStates': WHATEVER THE INPUT: true; the input reads as it did. -/
def fnExactEqualStatesSpec : ChangeSpec := { name := "fnExactEqualStates", fn := fun _ => fun
  | [d1, d2] => { results := [.lit (.bool true)], args := [d1, d2] }
  | _ => none }
def fnExactEqualStatesRow : OpenClaim := { program := "ytcjhkpggdgjpaaa", sum := "9bee830ea0ab4112a8180b58595a3ccde66405d1e4ddf0caa8806709d8eb1a51", func := "loop.example/g03002/laws.FnExactEqualStates", spec := "fnExactEqualStates", apart := false }
def FnExactEqualStatesSaid : Prop := fnExactEqualStatesRow.holds Try.pinned (OpenSpec.ofChange fnExactEqualStatesSpec)

/-- ITS FALSE NEIGHBOUR: 'it returns false'. Refute it at one input. -/
def fnExactEqualStatesWrong : ChangeSpec := { name := "fnExactEqualStates", fn := fun _ => fun
  | [d1, d2] => { results := [.lit (.bool false)], args := [d1, d2] }
  | _ => none }
def FnExactEqualStatesWrongFalsely : Prop := fnExactEqualStatesRow.holds Try.pinned (OpenSpec.ofChange fnExactEqualStatesWrong)

/-- 'laws.FnExactCountRules': WHATEVER THE INPUT: true; the input reads as it did. -/
def fnExactCountRulesSpec : ChangeSpec := { name := "fnExactCountRules", fn := fun _ => fun
  | [d] => { results := [.lit (.bool true)], args := [d] }
  | _ => none }
def fnExactCountRulesRow : OpenClaim := { program := "ytcjhkpggdgjpaaa", sum := "9bee830ea0ab4112a8180b58595a3ccde66405d1e4ddf0caa8806709d8eb1a51", func := "loop.example/g03002/laws.FnExactCountRules", spec := "fnExactCountRules", apart := false }
def FnExactCountRulesSaid : Prop := fnExactCountRulesRow.holds Try.pinned (OpenSpec.ofChange fnExactCountRulesSpec)

/-- ITS FALSE NEIGHBOUR: 'it returns false'. Refute it at one input. -/
def fnExactCountRulesWrong : ChangeSpec := { name := "fnExactCountRules", fn := fun _ => fun
  | [d] => { results := [.lit (.bool false)], args := [d] }
  | _ => none }
def FnExactCountRulesWrongFalsely : Prop := fnExactCountRulesRow.holds Try.pinned (OpenSpec.ofChange fnExactCountRulesWrong)

/-- 'laws.FnExactAreEntries': WHATEVER THE INPUT: true; the input reads as it did. -/
def fnExactAreEntriesSpec : ChangeSpec := { name := "fnExactAreEntries", fn := fun _ => fun
  | [d] => { results := [.lit (.bool true)], args := [d] }
  | _ => none }
def fnExactAreEntriesRow : OpenClaim := { program := "ytcjhkpggdgjpaaa", sum := "9bee830ea0ab4112a8180b58595a3ccde66405d1e4ddf0caa8806709d8eb1a51", func := "loop.example/g03002/laws.FnExactAreEntries", spec := "fnExactAreEntries", unfollowed := true, recurses := true, apart := false }
def FnExactAreEntriesSaid : Prop := fnExactAreEntriesRow.holds Try.pinned (OpenSpec.ofChange fnExactAreEntriesSpec)

/-- ITS FALSE NEIGHBOUR: 'it returns false'. Refute it at one input. -/
def fnExactAreEntriesWrong : ChangeSpec := { name := "fnExactAreEntries", fn := fun _ => fun
  | [d] => { results := [.lit (.bool false)], args := [d] }
  | _ => none }
def FnExactAreEntriesWrongFalsely : Prop := fnExactAreEntriesRow.holds Try.pinned (OpenSpec.ofChange fnExactAreEntriesWrong)

/-- 'laws.FnExactScriptInts': WHATEVER THE INPUT: true; the input reads as it did. -/
def fnExactScriptIntsSpec : ChangeSpec := { name := "fnExactScriptInts", fn := fun _ => fun
  | [d] => { results := [.lit (.bool true)], args := [d] }
  | _ => none }
def fnExactScriptIntsRow : OpenClaim := { program := "ytcjhkpggdgjpaaa", sum := "9bee830ea0ab4112a8180b58595a3ccde66405d1e4ddf0caa8806709d8eb1a51", func := "loop.example/g03002/laws.FnExactScriptInts", spec := "fnExactScriptInts", apart := false }
def FnExactScriptIntsSaid : Prop := fnExactScriptIntsRow.holds Try.pinned (OpenSpec.ofChange fnExactScriptIntsSpec)

/-- ITS FALSE NEIGHBOUR: 'it returns false'. Refute it at one input. -/
def fnExactScriptIntsWrong : ChangeSpec := { name := "fnExactScriptInts", fn := fun _ => fun
  | [d] => { results := [.lit (.bool false)], args := [d] }
  | _ => none }
def FnExactScriptIntsWrongFalsely : Prop := fnExactScriptIntsRow.holds Try.pinned (OpenSpec.ofChange fnExactScriptIntsWrong)

/-- 'laws.FnExactIsDone': WHATEVER THE INPUT: true; the input reads as it did. -/
def fnExactIsDoneSpec : ChangeSpec := { name := "fnExactIsDone", fn := fun _ => fun
  | [d1, d2] => { results := [.lit (.bool true)], args := [d1, d2] }
  | _ => none }
def fnExactIsDoneRow : OpenClaim := { program := "ytcjhkpggdgjpaaa", sum := "9bee830ea0ab4112a8180b58595a3ccde66405d1e4ddf0caa8806709d8eb1a51", func := "loop.example/g03002/laws.FnExactIsDone", spec := "fnExactIsDone", apart := false }
def FnExactIsDoneSaid : Prop := fnExactIsDoneRow.holds Try.pinned (OpenSpec.ofChange fnExactIsDoneSpec)

/-- ITS FALSE NEIGHBOUR: 'it returns false'. Refute it at one input. -/
def fnExactIsDoneWrong : ChangeSpec := { name := "fnExactIsDone", fn := fun _ => fun
  | [d1, d2] => { results := [.lit (.bool false)], args := [d1, d2] }
  | _ => none }
def FnExactIsDoneWrongFalsely : Prop := fnExactIsDoneRow.holds Try.pinned (OpenSpec.ofChange fnExactIsDoneWrong)

/-- 'laws.FnExactIsScript': WHATEVER THE INPUT: true; the input reads as it did. -/
def fnExactIsScriptSpec : ChangeSpec := { name := "fnExactIsScript", fn := fun _ => fun
  | [d] => { results := [.lit (.bool true)], args := [d] }
  | _ => none }
def fnExactIsScriptRow : OpenClaim := { program := "ytcjhkpggdgjpaaa", sum := "9bee830ea0ab4112a8180b58595a3ccde66405d1e4ddf0caa8806709d8eb1a51", func := "loop.example/g03002/laws.FnExactIsScript", spec := "fnExactIsScript", unfollowed := true, recurses := true, apart := false }
def FnExactIsScriptSaid : Prop := fnExactIsScriptRow.holds Try.pinned (OpenSpec.ofChange fnExactIsScriptSpec)

/-- ITS FALSE NEIGHBOUR: 'it returns false'. Refute it at one input. -/
def fnExactIsScriptWrong : ChangeSpec := { name := "fnExactIsScript", fn := fun _ => fun
  | [d] => { results := [.lit (.bool false)], args := [d] }
  | _ => none }
def FnExactIsScriptWrongFalsely : Prop := fnExactIsScriptRow.holds Try.pinned (OpenSpec.ofChange fnExactIsScriptWrong)

/-- 'laws.FnExactCaptureInts': WHATEVER THE INPUT: true; the input reads as it did. -/
def fnExactCaptureIntsSpec : ChangeSpec := { name := "fnExactCaptureInts", fn := fun _ => fun
  | [d] => { results := [.lit (.bool true)], args := [d] }
  | _ => none }
def fnExactCaptureIntsRow : OpenClaim := { program := "ytcjhkpggdgjpaaa", sum := "9bee830ea0ab4112a8180b58595a3ccde66405d1e4ddf0caa8806709d8eb1a51", func := "loop.example/g03002/laws.FnExactCaptureInts", spec := "fnExactCaptureInts", apart := false }
def FnExactCaptureIntsSaid : Prop := fnExactCaptureIntsRow.holds Try.pinned (OpenSpec.ofChange fnExactCaptureIntsSpec)

/-- ITS FALSE NEIGHBOUR: 'it returns false'. Refute it at one input. -/
def fnExactCaptureIntsWrong : ChangeSpec := { name := "fnExactCaptureInts", fn := fun _ => fun
  | [d] => { results := [.lit (.bool false)], args := [d] }
  | _ => none }
def FnExactCaptureIntsWrongFalsely : Prop := fnExactCaptureIntsRow.holds Try.pinned (OpenSpec.ofChange fnExactCaptureIntsWrong)

/-- 'laws.FnExactValueOfResource': WHATEVER THE INPUT: true; the input reads as it did. -/
def fnExactValueOfResourceSpec : ChangeSpec := { name := "fnExactValueOfResource", fn := fun _ => fun
  | [d] => { results := [.lit (.bool true)], args := [d] }
  | _ => none }
def fnExactValueOfResourceRow : OpenClaim := { program := "ytcjhkpggdgjpaaa", sum := "9bee830ea0ab4112a8180b58595a3ccde66405d1e4ddf0caa8806709d8eb1a51", func := "loop.example/g03002/laws.FnExactValueOfResource", spec := "fnExactValueOfResource", apart := false }
def FnExactValueOfResourceSaid : Prop := fnExactValueOfResourceRow.holds Try.pinned (OpenSpec.ofChange fnExactValueOfResourceSpec)

/-- ITS FALSE NEIGHBOUR: 'it returns false'. Refute it at one input. -/
def fnExactValueOfResourceWrong : ChangeSpec := { name := "fnExactValueOfResource", fn := fun _ => fun
  | [d] => { results := [.lit (.bool false)], args := [d] }
  | _ => none }
def FnExactValueOfResourceWrongFalsely : Prop := fnExactValueOfResourceRow.holds Try.pinned (OpenSpec.ofChange fnExactValueOfResourceWrong)

/-- 'laws.FnScripts': WHATEVER THE INPUT: true; the input reads as it did. -/
def fnScriptsSpec : ChangeSpec := { name := "fnScripts", fn := fun _ => fun
  | [d] => { results := [.lit (.bool true)], args := [d] }
  | _ => none }
def fnScriptsRow : OpenClaim := { program := "ytcjhkpggdgjpaaa", sum := "9bee830ea0ab4112a8180b58595a3ccde66405d1e4ddf0caa8806709d8eb1a51", func := "loop.example/g03002/laws.FnScripts", spec := "fnScripts", unfollowed := true, recurses := true, apart := false }
def FnScriptsSaid : Prop := fnScriptsRow.holds Try.pinned (OpenSpec.ofChange fnScriptsSpec)

/-- ITS FALSE NEIGHBOUR: 'it returns false'. Refute it at one input. -/
def fnScriptsWrong : ChangeSpec := { name := "fnScripts", fn := fun _ => fun
  | [d] => { results := [.lit (.bool false)], args := [d] }
  | _ => none }
def FnScriptsWrongFalsely : Prop := fnScriptsRow.holds Try.pinned (OpenSpec.ofChange fnScriptsWrong)

/-- 'laws.FnExactTimeOff': WHATEVER THE INPUT: true; the input reads as it did. -/
def fnExactTimeOffSpec : ChangeSpec := { name := "fnExactTimeOff", fn := fun _ => fun
  | [d1, d2, d3] => { results := [.lit (.bool true)], args := [d1, d2, d3] }
  | _ => none }
def fnExactTimeOffRow : OpenClaim := { program := "ytcjhkpggdgjpaaa", sum := "9bee830ea0ab4112a8180b58595a3ccde66405d1e4ddf0caa8806709d8eb1a51", func := "loop.example/g03002/laws.FnExactTimeOff", spec := "fnExactTimeOff", apart := false }
def FnExactTimeOffSaid : Prop := fnExactTimeOffRow.holds Try.pinned (OpenSpec.ofChange fnExactTimeOffSpec)

/-- ITS FALSE NEIGHBOUR: 'it returns false'. Refute it at one input. -/
def fnExactTimeOffWrong : ChangeSpec := { name := "fnExactTimeOff", fn := fun _ => fun
  | [d1, d2, d3] => { results := [.lit (.bool false)], args := [d1, d2, d3] }
  | _ => none }
def FnExactTimeOffWrongFalsely : Prop := fnExactTimeOffRow.holds Try.pinned (OpenSpec.ofChange fnExactTimeOffWrong)

/-- 'laws.FnExactWorstRule': WHATEVER THE INPUT: true; the input reads as it did. -/
def fnExactWorstRuleSpec : ChangeSpec := { name := "fnExactWorstRule", fn := fun _ => fun
  | [d] => { results := [.lit (.bool true)], args := [d] }
  | _ => none }
def fnExactWorstRuleRow : OpenClaim := { program := "ytcjhkpggdgjpaaa", sum := "9bee830ea0ab4112a8180b58595a3ccde66405d1e4ddf0caa8806709d8eb1a51", func := "loop.example/g03002/laws.FnExactWorstRule", spec := "fnExactWorstRule", apart := false }
def FnExactWorstRuleSaid : Prop := fnExactWorstRuleRow.holds Try.pinned (OpenSpec.ofChange fnExactWorstRuleSpec)

/-- ITS FALSE NEIGHBOUR: 'it returns false'. Refute it at one input. -/
def fnExactWorstRuleWrong : ChangeSpec := { name := "fnExactWorstRule", fn := fun _ => fun
  | [d] => { results := [.lit (.bool false)], args := [d] }
  | _ => none }
def FnExactWorstRuleWrongFalsely : Prop := fnExactWorstRuleRow.holds Try.pinned (OpenSpec.ofChange fnExactWorstRuleWrong)

/- THE SECOND FORM. 'bulk': how many values and letters a reading holds, each counted each time it is reached (what is shared counts as often as it is met; a slice's spare places count too). A statement '..UptoSaid' is the law's where the arguments, and the package variables that the reading takes, are together of bulk at most 1048576: NARROWER than '..Said'. Prove '..Said' where nothing that the law and all that it calls make is longer than what came in: it says more and counts as full. Else prove '..UptoSaid'. A law counts once. -/
mutual
def uptoBulk {H : Type} : DataW H → Nat
  | .lit (.string bytes) => bytes.length + 1
  | .lit _ => 1
  | .nil => 1
  | .ptr d => uptoBulk d + 1
  | .slice elems spare => uptoBulkAll elems + uptoBulkAll spare + 1
  | .agg parts => uptoBulkAll parts + 1
  | .iface _ d => uptoBulk d + 1
  | .map entries => uptoBulkEntries entries + 1
  | .held _ => 1
def uptoBulkAll {H : Type} : List (DataW H) → Nat
  | [] => 0
  | d :: r => uptoBulk d + uptoBulkAll r
def uptoBulkEntries {H : Type} : List (Lit × DataW H) → Nat
  | [] => 0
  | x :: r => uptoBulkEntry x + uptoBulkEntries r
def uptoBulkEntry {H : Type} : Lit × DataW H → Nat
  | (.string bytes, d) => bytes.length + uptoBulk d + 1
  | (_, d) => uptoBulk d + 1
 end
def uptoSmall : (H : Type) → List (DataW H) → Bool := fun _ ds => decide (uptoBulkAll ds ≤ 1048576)
def OpenSpec.upto (s : _root_.Go.ChangeSpec) : _root_.Go.OpenSpec := { _root_.Go.OpenSpec.ofChange s with cond := some uptoSmall }

/-- 'laws.FnExactIsState', WHERE WHAT IT READS IS OF BULK AT MOST 1048576: true; the input reads as it did. -/
def fnExactIsStateUptoRow : OpenClaim := { program := "ytcjhkpggdgjpaaa", sum := "9bee830ea0ab4112a8180b58595a3ccde66405d1e4ddf0caa8806709d8eb1a51", func := "loop.example/g03002/laws.FnExactIsState", spec := "fnExactIsState", apart := false, narrowed := true }
def FnExactIsStateUptoSaid : Prop := fnExactIsStateUptoRow.holds Try.pinned (OpenSpec.upto fnExactIsStateSpec)

/-- 'laws.FnExactEqualStates', WHERE WHAT IT READS IS OF BULK AT MOST 1048576: true; the input reads as it did. -/
def fnExactEqualStatesUptoRow : OpenClaim := { program := "ytcjhkpggdgjpaaa", sum := "9bee830ea0ab4112a8180b58595a3ccde66405d1e4ddf0caa8806709d8eb1a51", func := "loop.example/g03002/laws.FnExactEqualStates", spec := "fnExactEqualStates", apart := false, narrowed := true }
def FnExactEqualStatesUptoSaid : Prop := fnExactEqualStatesUptoRow.holds Try.pinned (OpenSpec.upto fnExactEqualStatesSpec)

/-- 'laws.FnExactCountRules', WHERE WHAT IT READS IS OF BULK AT MOST 1048576: true; the input reads as it did. -/
def fnExactCountRulesUptoRow : OpenClaim := { program := "ytcjhkpggdgjpaaa", sum := "9bee830ea0ab4112a8180b58595a3ccde66405d1e4ddf0caa8806709d8eb1a51", func := "loop.example/g03002/laws.FnExactCountRules", spec := "fnExactCountRules", apart := false, narrowed := true }
def FnExactCountRulesUptoSaid : Prop := fnExactCountRulesUptoRow.holds Try.pinned (OpenSpec.upto fnExactCountRulesSpec)

/-- 'laws.FnExactAreEntries', WHERE WHAT IT READS IS OF BULK AT MOST 1048576: true; the input reads as it did. -/
def fnExactAreEntriesUptoRow : OpenClaim := { program := "ytcjhkpggdgjpaaa", sum := "9bee830ea0ab4112a8180b58595a3ccde66405d1e4ddf0caa8806709d8eb1a51", func := "loop.example/g03002/laws.FnExactAreEntries", spec := "fnExactAreEntries", unfollowed := true, recurses := true, apart := false, narrowed := true }
def FnExactAreEntriesUptoSaid : Prop := fnExactAreEntriesUptoRow.holds Try.pinned (OpenSpec.upto fnExactAreEntriesSpec)

/-- 'laws.FnExactScriptInts', WHERE WHAT IT READS IS OF BULK AT MOST 1048576: true; the input reads as it did. -/
def fnExactScriptIntsUptoRow : OpenClaim := { program := "ytcjhkpggdgjpaaa", sum := "9bee830ea0ab4112a8180b58595a3ccde66405d1e4ddf0caa8806709d8eb1a51", func := "loop.example/g03002/laws.FnExactScriptInts", spec := "fnExactScriptInts", apart := false, narrowed := true }
def FnExactScriptIntsUptoSaid : Prop := fnExactScriptIntsUptoRow.holds Try.pinned (OpenSpec.upto fnExactScriptIntsSpec)

/-- 'laws.FnExactIsDone', WHERE WHAT IT READS IS OF BULK AT MOST 1048576: true; the input reads as it did. -/
def fnExactIsDoneUptoRow : OpenClaim := { program := "ytcjhkpggdgjpaaa", sum := "9bee830ea0ab4112a8180b58595a3ccde66405d1e4ddf0caa8806709d8eb1a51", func := "loop.example/g03002/laws.FnExactIsDone", spec := "fnExactIsDone", apart := false, narrowed := true }
def FnExactIsDoneUptoSaid : Prop := fnExactIsDoneUptoRow.holds Try.pinned (OpenSpec.upto fnExactIsDoneSpec)

/-- 'laws.FnExactIsScript', WHERE WHAT IT READS IS OF BULK AT MOST 1048576: true; the input reads as it did. -/
def fnExactIsScriptUptoRow : OpenClaim := { program := "ytcjhkpggdgjpaaa", sum := "9bee830ea0ab4112a8180b58595a3ccde66405d1e4ddf0caa8806709d8eb1a51", func := "loop.example/g03002/laws.FnExactIsScript", spec := "fnExactIsScript", unfollowed := true, recurses := true, apart := false, narrowed := true }
def FnExactIsScriptUptoSaid : Prop := fnExactIsScriptUptoRow.holds Try.pinned (OpenSpec.upto fnExactIsScriptSpec)

/-- 'laws.FnExactCaptureInts', WHERE WHAT IT READS IS OF BULK AT MOST 1048576: true; the input reads as it did. -/
def fnExactCaptureIntsUptoRow : OpenClaim := { program := "ytcjhkpggdgjpaaa", sum := "9bee830ea0ab4112a8180b58595a3ccde66405d1e4ddf0caa8806709d8eb1a51", func := "loop.example/g03002/laws.FnExactCaptureInts", spec := "fnExactCaptureInts", apart := false, narrowed := true }
def FnExactCaptureIntsUptoSaid : Prop := fnExactCaptureIntsUptoRow.holds Try.pinned (OpenSpec.upto fnExactCaptureIntsSpec)

/-- 'laws.FnExactValueOfResource', WHERE WHAT IT READS IS OF BULK AT MOST 1048576: true; the input reads as it did. -/
def fnExactValueOfResourceUptoRow : OpenClaim := { program := "ytcjhkpggdgjpaaa", sum := "9bee830ea0ab4112a8180b58595a3ccde66405d1e4ddf0caa8806709d8eb1a51", func := "loop.example/g03002/laws.FnExactValueOfResource", spec := "fnExactValueOfResource", apart := false, narrowed := true }
def FnExactValueOfResourceUptoSaid : Prop := fnExactValueOfResourceUptoRow.holds Try.pinned (OpenSpec.upto fnExactValueOfResourceSpec)

/-- 'laws.FnScripts', WHERE WHAT IT READS IS OF BULK AT MOST 1048576: true; the input reads as it did. -/
def fnScriptsUptoRow : OpenClaim := { program := "ytcjhkpggdgjpaaa", sum := "9bee830ea0ab4112a8180b58595a3ccde66405d1e4ddf0caa8806709d8eb1a51", func := "loop.example/g03002/laws.FnScripts", spec := "fnScripts", unfollowed := true, recurses := true, apart := false, narrowed := true }
def FnScriptsUptoSaid : Prop := fnScriptsUptoRow.holds Try.pinned (OpenSpec.upto fnScriptsSpec)

/-- 'laws.FnExactTimeOff', WHERE WHAT IT READS IS OF BULK AT MOST 1048576: true; the input reads as it did. -/
def fnExactTimeOffUptoRow : OpenClaim := { program := "ytcjhkpggdgjpaaa", sum := "9bee830ea0ab4112a8180b58595a3ccde66405d1e4ddf0caa8806709d8eb1a51", func := "loop.example/g03002/laws.FnExactTimeOff", spec := "fnExactTimeOff", apart := false, narrowed := true }
def FnExactTimeOffUptoSaid : Prop := fnExactTimeOffUptoRow.holds Try.pinned (OpenSpec.upto fnExactTimeOffSpec)

/-- 'laws.FnExactWorstRule', WHERE WHAT IT READS IS OF BULK AT MOST 1048576: true; the input reads as it did. -/
def fnExactWorstRuleUptoRow : OpenClaim := { program := "ytcjhkpggdgjpaaa", sum := "9bee830ea0ab4112a8180b58595a3ccde66405d1e4ddf0caa8806709d8eb1a51", func := "loop.example/g03002/laws.FnExactWorstRule", spec := "fnExactWorstRule", apart := false, narrowed := true }
def FnExactWorstRuleUptoSaid : Prop := fnExactWorstRuleUptoRow.holds Try.pinned (OpenSpec.upto fnExactWorstRuleSpec)

end Rows
end Go.Proofs.Ytcjhkpggdgjpaaa
