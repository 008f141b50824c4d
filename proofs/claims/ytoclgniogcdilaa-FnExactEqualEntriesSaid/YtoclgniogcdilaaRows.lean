/-
  No cell of these rows narrows 'for every input' (looked for: loops, veiled, ifaces, maps, wideKeys, modest, calm, conditions, laid).
  DERIVED. THE GIVEN ROWS OF THIS SEAT. 12 by the template 'for every input the law returns true; each argument reads behind the call as it read before'; 0 by the template 'total and deterministic' (their statements: YtoclgniogcdilaaTotals.lean).
  GIVEN WITH THE SEED: the statements are not yours to turn. If you find one false, say at which input.
  Laid BY PROGRAM, IN A SANDBOX (cutbox-rows.mjs): the forced cells as the released guide's own fill.sh prints them over the translation 05132545104521d7… (all of the seat's roots in one cut). By AI agents, Wed Nov 11 2026. No macro, syntax, notation, axiom, sorry.
-/
import Derived.Test.YtoclgniogcdilaaChecked
import GoSem.Claim
import GoSem.ClaimJoined
import GoSem.ClaimMapViews
import Derived.JoinedTies
import Derived.KernelRfl
namespace Go.Proofs.Ytoclgniogcdilaa
/- THE CELL 'sum', in the pinned program and in every row, IS THE sha256 OF THE DUMP (.gsa) THAT YtoclgniogcdilaaProg.lean LOADS. Nothing in Lean hashes anything: it is a label: what it is worth is what the hold of that sum in a sandbox is worth. -/
noncomputable def Try.pinned : Pinned := { name := "ytoclgniogcdilaa", sum := "05132545104521d77786c757741512eba01cca15c6df422c22bf21bf9f04560d", checked := Try.checked }
namespace Rows
def none {H : Type} : Left H := { results := [], args := [] }

/-- 'laws.FnExactAsks': WHATEVER THE INPUT: true; the input reads as it did. -/
def fnExactAsksSpec : ChangeSpec := { name := "fnExactAsks", fn := fun _ => fun
  | [d] => { results := [.lit (.bool true)], args := [d] }
  | _ => none }
def fnExactAsksRow : OpenClaim := { program := "ytoclgniogcdilaa", sum := "05132545104521d77786c757741512eba01cca15c6df422c22bf21bf9f04560d", func := "loop.example/g03002/laws.FnExactAsks", spec := "fnExactAsks", apart := false }
def FnExactAsksSaid : Prop := fnExactAsksRow.holds Try.pinned (OpenSpec.ofChange fnExactAsksSpec)

/-- ITS FALSE NEIGHBOUR: 'it returns false'. Refute it at one input. -/
def fnExactAsksWrong : ChangeSpec := { name := "fnExactAsks", fn := fun _ => fun
  | [d] => { results := [.lit (.bool false)], args := [d] }
  | _ => none }
def FnExactAsksWrongFalsely : Prop := fnExactAsksRow.holds Try.pinned (OpenSpec.ofChange fnExactAsksWrong)

/-- 'laws.FnExactIsBetter': WHATEVER THE INPUT: true; the input reads as it did. -/
def fnExactIsBetterSpec : ChangeSpec := { name := "fnExactIsBetter", fn := fun _ => fun
  | [d1, d2] => { results := [.lit (.bool true)], args := [d1, d2] }
  | _ => none }
def fnExactIsBetterRow : OpenClaim := { program := "ytoclgniogcdilaa", sum := "05132545104521d77786c757741512eba01cca15c6df422c22bf21bf9f04560d", func := "loop.example/g03002/laws.FnExactIsBetter", spec := "fnExactIsBetter", apart := false }
def FnExactIsBetterSaid : Prop := fnExactIsBetterRow.holds Try.pinned (OpenSpec.ofChange fnExactIsBetterSpec)

/-- ITS FALSE NEIGHBOUR: 'it returns false'. Refute it at one input. -/
def fnExactIsBetterWrong : ChangeSpec := { name := "fnExactIsBetter", fn := fun _ => fun
  | [d1, d2] => { results := [.lit (.bool false)], args := [d1, d2] }
  | _ => none }
def FnExactIsBetterWrongFalsely : Prop := fnExactIsBetterRow.holds Try.pinned (OpenSpec.ofChange fnExactIsBetterWrong)

/-- 'laws.FnExactOpName': WHATEVER THE INPUT: true; the input reads as it did. -/
def fnExactOpNameSpec : ChangeSpec := { name := "fnExactOpName", fn := fun _ => fun
  | [d] => { results := [.lit (.bool true)], args := [d] }
  | _ => none }
def fnExactOpNameRow : OpenClaim := { program := "ytoclgniogcdilaa", sum := "05132545104521d77786c757741512eba01cca15c6df422c22bf21bf9f04560d", func := "loop.example/g03002/laws.FnExactOpName", spec := "fnExactOpName", apart := false }
def FnExactOpNameSaid : Prop := fnExactOpNameRow.holds Try.pinned (OpenSpec.ofChange fnExactOpNameSpec)

/-- ITS FALSE NEIGHBOUR: 'it returns false'. Refute it at one input. -/
def fnExactOpNameWrong : ChangeSpec := { name := "fnExactOpName", fn := fun _ => fun
  | [d] => { results := [.lit (.bool false)], args := [d] }
  | _ => none }
def FnExactOpNameWrongFalsely : Prop := fnExactOpNameRow.holds Try.pinned (OpenSpec.ofChange fnExactOpNameWrong)

/-- 'laws.FnExactPlayName': WHATEVER THE INPUT: true; the input reads as it did. -/
def fnExactPlayNameSpec : ChangeSpec := { name := "fnExactPlayName", fn := fun _ => fun
  | [d] => { results := [.lit (.bool true)], args := [d] }
  | _ => none }
def fnExactPlayNameRow : OpenClaim := { program := "ytoclgniogcdilaa", sum := "05132545104521d77786c757741512eba01cca15c6df422c22bf21bf9f04560d", func := "loop.example/g03002/laws.FnExactPlayName", spec := "fnExactPlayName", apart := false }
def FnExactPlayNameSaid : Prop := fnExactPlayNameRow.holds Try.pinned (OpenSpec.ofChange fnExactPlayNameSpec)

/-- ITS FALSE NEIGHBOUR: 'it returns false'. Refute it at one input. -/
def fnExactPlayNameWrong : ChangeSpec := { name := "fnExactPlayName", fn := fun _ => fun
  | [d] => { results := [.lit (.bool false)], args := [d] }
  | _ => none }
def FnExactPlayNameWrongFalsely : Prop := fnExactPlayNameRow.holds Try.pinned (OpenSpec.ofChange fnExactPlayNameWrong)

/-- 'laws.FnExactRuleName': WHATEVER THE INPUT: true; the input reads as it did. -/
def fnExactRuleNameSpec : ChangeSpec := { name := "fnExactRuleName", fn := fun _ => fun
  | [d] => { results := [.lit (.bool true)], args := [d] }
  | _ => none }
def fnExactRuleNameRow : OpenClaim := { program := "ytoclgniogcdilaa", sum := "05132545104521d77786c757741512eba01cca15c6df422c22bf21bf9f04560d", func := "loop.example/g03002/laws.FnExactRuleName", spec := "fnExactRuleName", apart := false }
def FnExactRuleNameSaid : Prop := fnExactRuleNameRow.holds Try.pinned (OpenSpec.ofChange fnExactRuleNameSpec)

/-- ITS FALSE NEIGHBOUR: 'it returns false'. Refute it at one input. -/
def fnExactRuleNameWrong : ChangeSpec := { name := "fnExactRuleName", fn := fun _ => fun
  | [d] => { results := [.lit (.bool false)], args := [d] }
  | _ => none }
def FnExactRuleNameWrongFalsely : Prop := fnExactRuleNameRow.holds Try.pinned (OpenSpec.ofChange fnExactRuleNameWrong)

/-- 'laws.FnExactGuessForm': WHATEVER THE INPUT: true; the input reads as it did. -/
def fnExactGuessFormSpec : ChangeSpec := { name := "fnExactGuessForm", fn := fun _ => fun
  | [d1, d2] => { results := [.lit (.bool true)], args := [d1, d2] }
  | _ => none }
def fnExactGuessFormRow : OpenClaim := { program := "ytoclgniogcdilaa", sum := "05132545104521d77786c757741512eba01cca15c6df422c22bf21bf9f04560d", func := "loop.example/g03002/laws.FnExactGuessForm", spec := "fnExactGuessForm", apart := false }
def FnExactGuessFormSaid : Prop := fnExactGuessFormRow.holds Try.pinned (OpenSpec.ofChange fnExactGuessFormSpec)

/-- ITS FALSE NEIGHBOUR: 'it returns false'. Refute it at one input. -/
def fnExactGuessFormWrong : ChangeSpec := { name := "fnExactGuessForm", fn := fun _ => fun
  | [d1, d2] => { results := [.lit (.bool false)], args := [d1, d2] }
  | _ => none }
def FnExactGuessFormWrongFalsely : Prop := fnExactGuessFormRow.holds Try.pinned (OpenSpec.ofChange fnExactGuessFormWrong)

/-- 'laws.FnExactJoinLabel': WHATEVER THE INPUT: true; the input reads as it did. -/
def fnExactJoinLabelSpec : ChangeSpec := { name := "fnExactJoinLabel", fn := fun _ => fun
  | [d1, d2] => { results := [.lit (.bool true)], args := [d1, d2] }
  | _ => none }
def fnExactJoinLabelRow : OpenClaim := { program := "ytoclgniogcdilaa", sum := "05132545104521d77786c757741512eba01cca15c6df422c22bf21bf9f04560d", func := "loop.example/g03002/laws.FnExactJoinLabel", spec := "fnExactJoinLabel", apart := false }
def FnExactJoinLabelSaid : Prop := fnExactJoinLabelRow.holds Try.pinned (OpenSpec.ofChange fnExactJoinLabelSpec)

/-- ITS FALSE NEIGHBOUR: 'it returns false'. Refute it at one input. -/
def fnExactJoinLabelWrong : ChangeSpec := { name := "fnExactJoinLabel", fn := fun _ => fun
  | [d1, d2] => { results := [.lit (.bool false)], args := [d1, d2] }
  | _ => none }
def FnExactJoinLabelWrongFalsely : Prop := fnExactJoinLabelRow.holds Try.pinned (OpenSpec.ofChange fnExactJoinLabelWrong)

/-- 'laws.FnExactCapturesIn': WHATEVER THE INPUT: true; the input reads as it did. -/
def fnExactCapturesInSpec : ChangeSpec := { name := "fnExactCapturesIn", fn := fun _ => fun
  | [d] => { results := [.lit (.bool true)], args := [d] }
  | _ => none }
def fnExactCapturesInRow : OpenClaim := { program := "ytoclgniogcdilaa", sum := "05132545104521d77786c757741512eba01cca15c6df422c22bf21bf9f04560d", func := "loop.example/g03002/laws.FnExactCapturesIn", spec := "fnExactCapturesIn", apart := false }
def FnExactCapturesInSaid : Prop := fnExactCapturesInRow.holds Try.pinned (OpenSpec.ofChange fnExactCapturesInSpec)

/-- ITS FALSE NEIGHBOUR: 'it returns false'. Refute it at one input. -/
def fnExactCapturesInWrong : ChangeSpec := { name := "fnExactCapturesIn", fn := fun _ => fun
  | [d] => { results := [.lit (.bool false)], args := [d] }
  | _ => none }
def FnExactCapturesInWrongFalsely : Prop := fnExactCapturesInRow.holds Try.pinned (OpenSpec.ofChange fnExactCapturesInWrong)

/-- 'laws.FnExactCountAsks': WHATEVER THE INPUT: true; the input reads as it did. -/
def fnExactCountAsksSpec : ChangeSpec := { name := "fnExactCountAsks", fn := fun _ => fun
  | [d] => { results := [.lit (.bool true)], args := [d] }
  | _ => none }
def fnExactCountAsksRow : OpenClaim := { program := "ytoclgniogcdilaa", sum := "05132545104521d77786c757741512eba01cca15c6df422c22bf21bf9f04560d", func := "loop.example/g03002/laws.FnExactCountAsks", spec := "fnExactCountAsks", apart := false }
def FnExactCountAsksSaid : Prop := fnExactCountAsksRow.holds Try.pinned (OpenSpec.ofChange fnExactCountAsksSpec)

/-- ITS FALSE NEIGHBOUR: 'it returns false'. Refute it at one input. -/
def fnExactCountAsksWrong : ChangeSpec := { name := "fnExactCountAsks", fn := fun _ => fun
  | [d] => { results := [.lit (.bool false)], args := [d] }
  | _ => none }
def FnExactCountAsksWrongFalsely : Prop := fnExactCountAsksRow.holds Try.pinned (OpenSpec.ofChange fnExactCountAsksWrong)

/-- 'laws.FnExactStartState': WHATEVER THE INPUT: true; the input reads as it did. -/
def fnExactStartStateSpec : ChangeSpec := { name := "fnExactStartState", fn := fun _ => fun
  | [] => { results := [.lit (.bool true)], args := [] }
  | _ => none }
def fnExactStartStateRow : OpenClaim := { program := "ytoclgniogcdilaa", sum := "05132545104521d77786c757741512eba01cca15c6df422c22bf21bf9f04560d", func := "loop.example/g03002/laws.FnExactStartState", spec := "fnExactStartState", apart := false }
def FnExactStartStateSaid : Prop := fnExactStartStateRow.holds Try.pinned (OpenSpec.ofChange fnExactStartStateSpec)

/-- ITS FALSE NEIGHBOUR: 'it returns false'. Refute it at one input. -/
def fnExactStartStateWrong : ChangeSpec := { name := "fnExactStartState", fn := fun _ => fun
  | [] => { results := [.lit (.bool false)], args := [] }
  | _ => none }
def FnExactStartStateWrongFalsely : Prop := fnExactStartStateRow.holds Try.pinned (OpenSpec.ofChange fnExactStartStateWrong)

/-- 'laws.FnExactQualityOf': WHATEVER THE INPUT: true; the input reads as it did. -/
def fnExactQualityOfSpec : ChangeSpec := { name := "fnExactQualityOf", fn := fun _ => fun
  | [d] => { results := [.lit (.bool true)], args := [d] }
  | _ => none }
def fnExactQualityOfRow : OpenClaim := { program := "ytoclgniogcdilaa", sum := "05132545104521d77786c757741512eba01cca15c6df422c22bf21bf9f04560d", func := "loop.example/g03002/laws.FnExactQualityOf", spec := "fnExactQualityOf", apart := false }
def FnExactQualityOfSaid : Prop := fnExactQualityOfRow.holds Try.pinned (OpenSpec.ofChange fnExactQualityOfSpec)

/-- ITS FALSE NEIGHBOUR: 'it returns false'. Refute it at one input. -/
def fnExactQualityOfWrong : ChangeSpec := { name := "fnExactQualityOf", fn := fun _ => fun
  | [d] => { results := [.lit (.bool false)], args := [d] }
  | _ => none }
def FnExactQualityOfWrongFalsely : Prop := fnExactQualityOfRow.holds Try.pinned (OpenSpec.ofChange fnExactQualityOfWrong)

/-- 'laws.FnExactEqualEntries': WHATEVER THE INPUT: true; the input reads as it did. -/
def fnExactEqualEntriesSpec : ChangeSpec := { name := "fnExactEqualEntries", fn := fun _ => fun
  | [d1, d2] => { results := [.lit (.bool true)], args := [d1, d2] }
  | _ => none }
def fnExactEqualEntriesRow : OpenClaim := { program := "ytoclgniogcdilaa", sum := "05132545104521d77786c757741512eba01cca15c6df422c22bf21bf9f04560d", func := "loop.example/g03002/laws.FnExactEqualEntries", spec := "fnExactEqualEntries", apart := false }
def FnExactEqualEntriesSaid : Prop := fnExactEqualEntriesRow.holds Try.pinned (OpenSpec.ofChange fnExactEqualEntriesSpec)

/-- ITS FALSE NEIGHBOUR: 'it returns false'. Refute it at one input. -/
def fnExactEqualEntriesWrong : ChangeSpec := { name := "fnExactEqualEntries", fn := fun _ => fun
  | [d1, d2] => { results := [.lit (.bool false)], args := [d1, d2] }
  | _ => none }
def FnExactEqualEntriesWrongFalsely : Prop := fnExactEqualEntriesRow.holds Try.pinned (OpenSpec.ofChange fnExactEqualEntriesWrong)

/- THE SECOND FORM. 'bulk': how many values and letters a reading holds, each counted each time it is reached (what is shared counts as often as it is met; a slice's spare places count too). A statement '..UptoSaid' is the law's where the arguments, and the package variables that the reading takes, are together of bulk at most 1048576: NARROWER than '..Said'. Prove '..Said' where nothing that the law and all that it calls make is longer than what came in: it says more and counts as full. Else prove '..UptoSaid'. A law counts once. -/
mutual
def uptoBulk {H : Type} : DataW H → Nat
  | .lit (.string bytes) => bytes.length + 1
  | .lit _ => 1
  | .nil => 1
  | .ptr d => uptoBulk d + 1
  | .slice elems spare => uptoBulkAll elems + uptoBulkAll spare + 1
  | .agg parts => uptoBulkAll parts + 1
  | .iface _ d => uptoBulk d + 1
  | .map entries => uptoBulkEntries entries + 1
  | .held _ => 1
def uptoBulkAll {H : Type} : List (DataW H) → Nat
  | [] => 0
  | d :: r => uptoBulk d + uptoBulkAll r
def uptoBulkEntries {H : Type} : List (Lit × DataW H) → Nat
  | [] => 0
  | x :: r => uptoBulkEntry x + uptoBulkEntries r
def uptoBulkEntry {H : Type} : Lit × DataW H → Nat
  | (.string bytes, d) => bytes.length + uptoBulk d + 1
  | (_, d) => uptoBulk d + 1
 end
def uptoSmall : (H : Type) → List (DataW H) → Bool := fun _ ds => decide (uptoBulkAll ds ≤ 1048576)
def OpenSpec.upto (s : _root_.Go.ChangeSpec) : _root_.Go.OpenSpec := { _root_.Go.OpenSpec.ofChange s with cond := some uptoSmall }

/-- 'laws.FnExactAsks', WHERE WHAT IT READS IS OF BULK AT MOST 1048576: true; the input reads as it did. -/
def fnExactAsksUptoRow : OpenClaim := { program := "ytoclgniogcdilaa", sum := "05132545104521d77786c757741512eba01cca15c6df422c22bf21bf9f04560d", func := "loop.example/g03002/laws.FnExactAsks", spec := "fnExactAsks", apart := false, narrowed := true }
def FnExactAsksUptoSaid : Prop := fnExactAsksUptoRow.holds Try.pinned (OpenSpec.upto fnExactAsksSpec)

/-- 'laws.FnExactIsBetter', WHERE WHAT IT READS IS OF BULK AT MOST 1048576: true; the input reads as it did. -/
def fnExactIsBetterUptoRow : OpenClaim := { program := "ytoclgniogcdilaa", sum := "05132545104521d77786c757741512eba01cca15c6df422c22bf21bf9f04560d", func := "loop.example/g03002/laws.FnExactIsBetter", spec := "fnExactIsBetter", apart := false, narrowed := true }
def FnExactIsBetterUptoSaid : Prop := fnExactIsBetterUptoRow.holds Try.pinned (OpenSpec.upto fnExactIsBetterSpec)

/-- 'laws.FnExactOpName', WHERE WHAT IT READS IS OF BULK AT MOST 1048576: true; the input reads as it did. -/
def fnExactOpNameUptoRow : OpenClaim := { program := "ytoclgniogcdilaa", sum := "05132545104521d77786c757741512eba01cca15c6df422c22bf21bf9f04560d", func := "loop.example/g03002/laws.FnExactOpName", spec := "fnExactOpName", apart := false, narrowed := true }
def FnExactOpNameUptoSaid : Prop := fnExactOpNameUptoRow.holds Try.pinned (OpenSpec.upto fnExactOpNameSpec)

/-- 'laws.FnExactPlayName', WHERE WHAT IT READS IS OF BULK AT MOST 1048576: true; the input reads as it did. -/
def fnExactPlayNameUptoRow : OpenClaim := { program := "ytoclgniogcdilaa", sum := "05132545104521d77786c757741512eba01cca15c6df422c22bf21bf9f04560d", func := "loop.example/g03002/laws.FnExactPlayName", spec := "fnExactPlayName", apart := false, narrowed := true }
def FnExactPlayNameUptoSaid : Prop := fnExactPlayNameUptoRow.holds Try.pinned (OpenSpec.upto fnExactPlayNameSpec)

/-- 'laws.FnExactRuleName', WHERE WHAT IT READS IS OF BULK AT MOST 1048576: true; the input reads as it did. -/
def fnExactRuleNameUptoRow : OpenClaim := { program := "ytoclgniogcdilaa", sum := "05132545104521d77786c757741512eba01cca15c6df422c22bf21bf9f04560d", func := "loop.example/g03002/laws.FnExactRuleName", spec := "fnExactRuleName", apart := false, narrowed := true }
def FnExactRuleNameUptoSaid : Prop := fnExactRuleNameUptoRow.holds Try.pinned (OpenSpec.upto fnExactRuleNameSpec)

/-- 'laws.FnExactGuessForm', WHERE WHAT IT READS IS OF BULK AT MOST 1048576: true; the input reads as it did. -/
def fnExactGuessFormUptoRow : OpenClaim := { program := "ytoclgniogcdilaa", sum := "05132545104521d77786c757741512eba01cca15c6df422c22bf21bf9f04560d", func := "loop.example/g03002/laws.FnExactGuessForm", spec := "fnExactGuessForm", apart := false, narrowed := true }
def FnExactGuessFormUptoSaid : Prop := fnExactGuessFormUptoRow.holds Try.pinned (OpenSpec.upto fnExactGuessFormSpec)

/-- 'laws.FnExactJoinLabel', WHERE WHAT IT READS IS OF BULK AT MOST 1048576: true; the input reads as it did. -/
def fnExactJoinLabelUptoRow : OpenClaim := { program := "ytoclgniogcdilaa", sum := "05132545104521d77786c757741512eba01cca15c6df422c22bf21bf9f04560d", func := "loop.example/g03002/laws.FnExactJoinLabel", spec := "fnExactJoinLabel", apart := false, narrowed := true }
def FnExactJoinLabelUptoSaid : Prop := fnExactJoinLabelUptoRow.holds Try.pinned (OpenSpec.upto fnExactJoinLabelSpec)

/-- 'laws.FnExactCapturesIn', WHERE WHAT IT READS IS OF BULK AT MOST 1048576: true; the input reads as it did. -/
def fnExactCapturesInUptoRow : OpenClaim := { program := "ytoclgniogcdilaa", sum := "05132545104521d77786c757741512eba01cca15c6df422c22bf21bf9f04560d", func := "loop.example/g03002/laws.FnExactCapturesIn", spec := "fnExactCapturesIn", apart := false, narrowed := true }
def FnExactCapturesInUptoSaid : Prop := fnExactCapturesInUptoRow.holds Try.pinned (OpenSpec.upto fnExactCapturesInSpec)

/-- 'laws.FnExactCountAsks', WHERE WHAT IT READS IS OF BULK AT MOST 1048576: true; the input reads as it did. -/
def fnExactCountAsksUptoRow : OpenClaim := { program := "ytoclgniogcdilaa", sum := "05132545104521d77786c757741512eba01cca15c6df422c22bf21bf9f04560d", func := "loop.example/g03002/laws.FnExactCountAsks", spec := "fnExactCountAsks", apart := false, narrowed := true }
def FnExactCountAsksUptoSaid : Prop := fnExactCountAsksUptoRow.holds Try.pinned (OpenSpec.upto fnExactCountAsksSpec)

/-- 'laws.FnExactStartState', WHERE WHAT IT READS IS OF BULK AT MOST 1048576: true; the input reads as it did. -/
def fnExactStartStateUptoRow : OpenClaim := { program := "ytoclgniogcdilaa", sum := "05132545104521d77786c757741512eba01cca15c6df422c22bf21bf9f04560d", func := "loop.example/g03002/laws.FnExactStartState", spec := "fnExactStartState", apart := false, narrowed := true }
def FnExactStartStateUptoSaid : Prop := fnExactStartStateUptoRow.holds Try.pinned (OpenSpec.upto fnExactStartStateSpec)

/-- 'laws.FnExactQualityOf', WHERE WHAT IT READS IS OF BULK AT MOST 1048576: true; the input reads as it did. -/
def fnExactQualityOfUptoRow : OpenClaim := { program := "ytoclgniogcdilaa", sum := "05132545104521d77786c757741512eba01cca15c6df422c22bf21bf9f04560d", func := "loop.example/g03002/laws.FnExactQualityOf", spec := "fnExactQualityOf", apart := false, narrowed := true }
def FnExactQualityOfUptoSaid : Prop := fnExactQualityOfUptoRow.holds Try.pinned (OpenSpec.upto fnExactQualityOfSpec)

/-- 'laws.FnExactEqualEntries', WHERE WHAT IT READS IS OF BULK AT MOST 1048576: true; the input reads as it did. -/
def fnExactEqualEntriesUptoRow : OpenClaim := { program := "ytoclgniogcdilaa", sum := "05132545104521d77786c757741512eba01cca15c6df422c22bf21bf9f04560d", func := "loop.example/g03002/laws.FnExactEqualEntries", spec := "fnExactEqualEntries", apart := false, narrowed := true }
def FnExactEqualEntriesUptoSaid : Prop := fnExactEqualEntriesUptoRow.holds Try.pinned (OpenSpec.upto fnExactEqualEntriesSpec)

end Rows
end Go.Proofs.Ytoclgniogcdilaa
