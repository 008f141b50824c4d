/-
  No cell of these rows narrows 'for every input' (looked for: loops, veiled, ifaces, maps, wideKeys, modest, calm, conditions, laid).
  DERIVED. THE GIVEN ROWS OF THIS SEAT. 12 by the template 'for every input the law returns true; each argument reads behind the call as it read before'; 0 by the template 'total and deterministic' (their statements: YtnhnfomfeicilaaTotals.lean).
  GIVEN WITH THE SEED: the statements are not yours to turn. If you find one false, say at which input.
  Laid BY PROGRAM, IN A SANDBOX (cutbox-rows.mjs): the forced cells as the released guide's own fill.sh prints them over the translation 6c51304b585b7f12… (all of the seat's roots in one cut). By AI agents, Wed Nov 11 2026. No macro, syntax, notation, axiom, sorry.
-/
import Derived.Test.YtnhnfomfeicilaaChecked
import GoSem.Claim
import GoSem.ClaimJoined
import GoSem.ClaimMapViews
import Derived.JoinedTies
import Derived.KernelRfl
namespace Go.Proofs.Ytnhnfomfeicilaa
/- THE CELL 'sum', in the pinned program and in every row, IS THE sha256 OF THE DUMP (.gsa) THAT YtnhnfomfeicilaaProg.lean LOADS. Nothing in Lean hashes anything: it is a label: what it is worth is what the hold of that sum in a sandbox is worth. -/
noncomputable def Try.pinned : Pinned := { name := "ytnhnfomfeicilaa", sum := "6c51304b585b7f1251e287f9e4d04c5e0da74c9c79c97575ba7a4a43f163b2b4", checked := Try.checked }
namespace Rows
def none {H : Type} : Left H := { results := [], args := [] }

/-- 'laws.FnExactEqualCaptures': WHATEVER THE INPUT: true; the input reads as it did. -/
def fnExactEqualCapturesSpec : ChangeSpec := { name := "fnExactEqualCaptures", fn := fun _ => fun
  | [d1, d2] => { results := [.lit (.bool true)], args := [d1, d2] }
  | _ => none }
def fnExactEqualCapturesRow : OpenClaim := { program := "ytnhnfomfeicilaa", sum := "6c51304b585b7f1251e287f9e4d04c5e0da74c9c79c97575ba7a4a43f163b2b4", func := "loop.example/g03002/laws.FnExactEqualCaptures", spec := "fnExactEqualCaptures", unfollowed := true, recurses := true, apart := false }
def FnExactEqualCapturesSaid : Prop := fnExactEqualCapturesRow.holds Try.pinned (OpenSpec.ofChange fnExactEqualCapturesSpec)

/-- ITS FALSE NEIGHBOUR: 'it returns false'. Refute it at one input. -/
def fnExactEqualCapturesWrong : ChangeSpec := { name := "fnExactEqualCaptures", fn := fun _ => fun
  | [d1, d2] => { results := [.lit (.bool false)], args := [d1, d2] }
  | _ => none }
def FnExactEqualCapturesWrongFalsely : Prop := fnExactEqualCapturesRow.holds Try.pinned (OpenSpec.ofChange fnExactEqualCapturesWrong)

/-- 'laws.FnExactAreCaptures': WHATEVER THE INPUT: true; the input reads as it did. -/
def fnExactAreCapturesSpec : ChangeSpec := { name := "fnExactAreCaptures", fn := fun _ => fun
  | [d] => { results := [.lit (.bool true)], args := [d] }
  | _ => none }
def fnExactAreCapturesRow : OpenClaim := { program := "ytnhnfomfeicilaa", sum := "6c51304b585b7f1251e287f9e4d04c5e0da74c9c79c97575ba7a4a43f163b2b4", func := "loop.example/g03002/laws.FnExactAreCaptures", spec := "fnExactAreCaptures", unfollowed := true, recurses := true, apart := false }
def FnExactAreCapturesSaid : Prop := fnExactAreCapturesRow.holds Try.pinned (OpenSpec.ofChange fnExactAreCapturesSpec)

/-- ITS FALSE NEIGHBOUR: 'it returns false'. Refute it at one input. -/
def fnExactAreCapturesWrong : ChangeSpec := { name := "fnExactAreCaptures", fn := fun _ => fun
  | [d] => { results := [.lit (.bool false)], args := [d] }
  | _ => none }
def FnExactAreCapturesWrongFalsely : Prop := fnExactAreCapturesRow.holds Try.pinned (OpenSpec.ofChange fnExactAreCapturesWrong)

/-- 'laws.FnExactSpanOf': WHATEVER THE INPUT: true; the input reads as it did. -/
def fnExactSpanOfSpec : ChangeSpec := { name := "fnExactSpanOf", fn := fun _ => fun
  | [d1, d2] => { results := [.lit (.bool true)], args := [d1, d2] }
  | _ => none }
def fnExactSpanOfRow : OpenClaim := { program := "ytnhnfomfeicilaa", sum := "6c51304b585b7f1251e287f9e4d04c5e0da74c9c79c97575ba7a4a43f163b2b4", func := "loop.example/g03002/laws.FnExactSpanOf", spec := "fnExactSpanOf", apart := false }
def FnExactSpanOfSaid : Prop := fnExactSpanOfRow.holds Try.pinned (OpenSpec.ofChange fnExactSpanOfSpec)

/-- ITS FALSE NEIGHBOUR: 'it returns false'. Refute it at one input. -/
def fnExactSpanOfWrong : ChangeSpec := { name := "fnExactSpanOf", fn := fun _ => fun
  | [d1, d2] => { results := [.lit (.bool false)], args := [d1, d2] }
  | _ => none }
def FnExactSpanOfWrongFalsely : Prop := fnExactSpanOfRow.holds Try.pinned (OpenSpec.ofChange fnExactSpanOfWrong)

/-- 'laws.FnExactFitsForm': WHATEVER THE INPUT: true; the input reads as it did. -/
def fnExactFitsFormSpec : ChangeSpec := { name := "fnExactFitsForm", fn := fun _ => fun
  | [d1, d2] => { results := [.lit (.bool true)], args := [d1, d2] }
  | _ => none }
def fnExactFitsFormRow : OpenClaim := { program := "ytnhnfomfeicilaa", sum := "6c51304b585b7f1251e287f9e4d04c5e0da74c9c79c97575ba7a4a43f163b2b4", func := "loop.example/g03002/laws.FnExactFitsForm", spec := "fnExactFitsForm", apart := false }
def FnExactFitsFormSaid : Prop := fnExactFitsFormRow.holds Try.pinned (OpenSpec.ofChange fnExactFitsFormSpec)

/-- ITS FALSE NEIGHBOUR: 'it returns false'. Refute it at one input. -/
def fnExactFitsFormWrong : ChangeSpec := { name := "fnExactFitsForm", fn := fun _ => fun
  | [d1, d2] => { results := [.lit (.bool false)], args := [d1, d2] }
  | _ => none }
def FnExactFitsFormWrongFalsely : Prop := fnExactFitsFormRow.holds Try.pinned (OpenSpec.ofChange fnExactFitsFormWrong)

/-- 'laws.FnExactIsMarked': WHATEVER THE INPUT: true; the input reads as it did. -/
def fnExactIsMarkedSpec : ChangeSpec := { name := "fnExactIsMarked", fn := fun _ => fun
  | [d] => { results := [.lit (.bool true)], args := [d] }
  | _ => none }
def fnExactIsMarkedRow : OpenClaim := { program := "ytnhnfomfeicilaa", sum := "6c51304b585b7f1251e287f9e4d04c5e0da74c9c79c97575ba7a4a43f163b2b4", func := "loop.example/g03002/laws.FnExactIsMarked", spec := "fnExactIsMarked", apart := false }
def FnExactIsMarkedSaid : Prop := fnExactIsMarkedRow.holds Try.pinned (OpenSpec.ofChange fnExactIsMarkedSpec)

/-- ITS FALSE NEIGHBOUR: 'it returns false'. Refute it at one input. -/
def fnExactIsMarkedWrong : ChangeSpec := { name := "fnExactIsMarked", fn := fun _ => fun
  | [d] => { results := [.lit (.bool false)], args := [d] }
  | _ => none }
def FnExactIsMarkedWrongFalsely : Prop := fnExactIsMarkedRow.holds Try.pinned (OpenSpec.ofChange fnExactIsMarkedWrong)

/-- 'laws.FnExactResourceBy': WHATEVER THE INPUT: true; the input reads as it did. -/
def fnExactResourceBySpec : ChangeSpec := { name := "fnExactResourceBy", fn := fun _ => fun
  | [d1, d2] => { results := [.lit (.bool true)], args := [d1, d2] }
  | _ => none }
def fnExactResourceByRow : OpenClaim := { program := "ytnhnfomfeicilaa", sum := "6c51304b585b7f1251e287f9e4d04c5e0da74c9c79c97575ba7a4a43f163b2b4", func := "loop.example/g03002/laws.FnExactResourceBy", spec := "fnExactResourceBy", apart := false }
def FnExactResourceBySaid : Prop := fnExactResourceByRow.holds Try.pinned (OpenSpec.ofChange fnExactResourceBySpec)

/-- ITS FALSE NEIGHBOUR: 'it returns false'. Refute it at one input. -/
def fnExactResourceByWrong : ChangeSpec := { name := "fnExactResourceBy", fn := fun _ => fun
  | [d1, d2] => { results := [.lit (.bool false)], args := [d1, d2] }
  | _ => none }
def FnExactResourceByWrongFalsely : Prop := fnExactResourceByRow.holds Try.pinned (OpenSpec.ofChange fnExactResourceByWrong)

/-- 'laws.FnExactIsMixed': WHATEVER THE INPUT: true; the input reads as it did. -/
def fnExactIsMixedSpec : ChangeSpec := { name := "fnExactIsMixed", fn := fun _ => fun
  | [d1, d2, d3] => { results := [.lit (.bool true)], args := [d1, d2, d3] }
  | _ => none }
def fnExactIsMixedRow : OpenClaim := { program := "ytnhnfomfeicilaa", sum := "6c51304b585b7f1251e287f9e4d04c5e0da74c9c79c97575ba7a4a43f163b2b4", func := "loop.example/g03002/laws.FnExactIsMixed", spec := "fnExactIsMixed", apart := false }
def FnExactIsMixedSaid : Prop := fnExactIsMixedRow.holds Try.pinned (OpenSpec.ofChange fnExactIsMixedSpec)

/-- ITS FALSE NEIGHBOUR: 'it returns false'. Refute it at one input. -/
def fnExactIsMixedWrong : ChangeSpec := { name := "fnExactIsMixed", fn := fun _ => fun
  | [d1, d2, d3] => { results := [.lit (.bool false)], args := [d1, d2, d3] }
  | _ => none }
def FnExactIsMixedWrongFalsely : Prop := fnExactIsMixedRow.holds Try.pinned (OpenSpec.ofChange fnExactIsMixedWrong)

/-- 'laws.FnNearest': WHATEVER THE INPUT: true; the input reads as it did. -/
def fnNearestSpec : ChangeSpec := { name := "fnNearest", fn := fun _ => fun
  | [d] => { results := [.lit (.bool true)], args := [d] }
  | _ => none }
def fnNearestRow : OpenClaim := { program := "ytnhnfomfeicilaa", sum := "6c51304b585b7f1251e287f9e4d04c5e0da74c9c79c97575ba7a4a43f163b2b4", func := "loop.example/g03002/laws.FnNearest", spec := "fnNearest", unfollowed := true, recurses := true, apart := false }
def FnNearestSaid : Prop := fnNearestRow.holds Try.pinned (OpenSpec.ofChange fnNearestSpec)

/-- ITS FALSE NEIGHBOUR: 'it returns false'. Refute it at one input. -/
def fnNearestWrong : ChangeSpec := { name := "fnNearest", fn := fun _ => fun
  | [d] => { results := [.lit (.bool false)], args := [d] }
  | _ => none }
def FnNearestWrongFalsely : Prop := fnNearestRow.holds Try.pinned (OpenSpec.ofChange fnNearestWrong)

/-- 'laws.FnExactIsVisit': WHATEVER THE INPUT: true; the input reads as it did. -/
def fnExactIsVisitSpec : ChangeSpec := { name := "fnExactIsVisit", fn := fun _ => fun
  | [d] => { results := [.lit (.bool true)], args := [d] }
  | _ => none }
def fnExactIsVisitRow : OpenClaim := { program := "ytnhnfomfeicilaa", sum := "6c51304b585b7f1251e287f9e4d04c5e0da74c9c79c97575ba7a4a43f163b2b4", func := "loop.example/g03002/laws.FnExactIsVisit", spec := "fnExactIsVisit", unfollowed := true, recurses := true, apart := false }
def FnExactIsVisitSaid : Prop := fnExactIsVisitRow.holds Try.pinned (OpenSpec.ofChange fnExactIsVisitSpec)

/-- ITS FALSE NEIGHBOUR: 'it returns false'. Refute it at one input. -/
def fnExactIsVisitWrong : ChangeSpec := { name := "fnExactIsVisit", fn := fun _ => fun
  | [d] => { results := [.lit (.bool false)], args := [d] }
  | _ => none }
def FnExactIsVisitWrongFalsely : Prop := fnExactIsVisitRow.holds Try.pinned (OpenSpec.ofChange fnExactIsVisitWrong)

/-- 'laws.FnExactWantOf': WHATEVER THE INPUT: true; the input reads as it did. -/
def fnExactWantOfSpec : ChangeSpec := { name := "fnExactWantOf", fn := fun _ => fun
  | [d1, d2] => { results := [.lit (.bool true)], args := [d1, d2] }
  | _ => none }
def fnExactWantOfRow : OpenClaim := { program := "ytnhnfomfeicilaa", sum := "6c51304b585b7f1251e287f9e4d04c5e0da74c9c79c97575ba7a4a43f163b2b4", func := "loop.example/g03002/laws.FnExactWantOf", spec := "fnExactWantOf", unfollowed := true, recurses := true, apart := false }
def FnExactWantOfSaid : Prop := fnExactWantOfRow.holds Try.pinned (OpenSpec.ofChange fnExactWantOfSpec)

/-- ITS FALSE NEIGHBOUR: 'it returns false'. Refute it at one input. -/
def fnExactWantOfWrong : ChangeSpec := { name := "fnExactWantOf", fn := fun _ => fun
  | [d1, d2] => { results := [.lit (.bool false)], args := [d1, d2] }
  | _ => none }
def FnExactWantOfWrongFalsely : Prop := fnExactWantOfRow.holds Try.pinned (OpenSpec.ofChange fnExactWantOfWrong)

/-- 'laws.FnMachine': WHATEVER THE INPUT: true; the input reads as it did. -/
def fnMachineSpec : ChangeSpec := { name := "fnMachine", fn := fun _ => fun
  | [d] => { results := [.lit (.bool true)], args := [d] }
  | _ => none }
def fnMachineRow : OpenClaim := { program := "ytnhnfomfeicilaa", sum := "6c51304b585b7f1251e287f9e4d04c5e0da74c9c79c97575ba7a4a43f163b2b4", func := "loop.example/g03002/laws.FnMachine", spec := "fnMachine", unfollowed := true, recurses := true, apart := false }
def FnMachineSaid : Prop := fnMachineRow.holds Try.pinned (OpenSpec.ofChange fnMachineSpec)

/-- ITS FALSE NEIGHBOUR: 'it returns false'. Refute it at one input. -/
def fnMachineWrong : ChangeSpec := { name := "fnMachine", fn := fun _ => fun
  | [d] => { results := [.lit (.bool false)], args := [d] }
  | _ => none }
def FnMachineWrongFalsely : Prop := fnMachineRow.holds Try.pinned (OpenSpec.ofChange fnMachineWrong)

/-- 'laws.FnExactCountFits': WHATEVER THE INPUT: true; the input reads as it did. -/
def fnExactCountFitsSpec : ChangeSpec := { name := "fnExactCountFits", fn := fun _ => fun
  | [d1, d2, d3] => { results := [.lit (.bool true)], args := [d1, d2, d3] }
  | _ => none }
def fnExactCountFitsRow : OpenClaim := { program := "ytnhnfomfeicilaa", sum := "6c51304b585b7f1251e287f9e4d04c5e0da74c9c79c97575ba7a4a43f163b2b4", func := "loop.example/g03002/laws.FnExactCountFits", spec := "fnExactCountFits", apart := false }
def FnExactCountFitsSaid : Prop := fnExactCountFitsRow.holds Try.pinned (OpenSpec.ofChange fnExactCountFitsSpec)

/-- ITS FALSE NEIGHBOUR: 'it returns false'. Refute it at one input. -/
def fnExactCountFitsWrong : ChangeSpec := { name := "fnExactCountFits", fn := fun _ => fun
  | [d1, d2, d3] => { results := [.lit (.bool false)], args := [d1, d2, d3] }
  | _ => none }
def FnExactCountFitsWrongFalsely : Prop := fnExactCountFitsRow.holds Try.pinned (OpenSpec.ofChange fnExactCountFitsWrong)

/- THE SECOND FORM. 'bulk': how many values and letters a reading holds, each counted each time it is reached (what is shared counts as often as it is met; a slice's spare places count too). A statement '..UptoSaid' is the law's where the arguments, and the package variables that the reading takes, are together of bulk at most 1048576: NARROWER than '..Said'. Prove '..Said' where nothing that the law and all that it calls make is longer than what came in: it says more and counts as full. Else prove '..UptoSaid'. A law counts once. -/
mutual
def uptoBulk {H : Type} : DataW H → Nat
  | .lit (.string bytes) => bytes.length + 1
  | .lit _ => 1
  | .nil => 1
  | .ptr d => uptoBulk d + 1
  | .slice elems spare => uptoBulkAll elems + uptoBulkAll spare + 1
  | .agg parts => uptoBulkAll parts + 1
  | .iface _ d => uptoBulk d + 1
  | .map entries => uptoBulkEntries entries + 1
  | .held _ => 1
def uptoBulkAll {H : Type} : List (DataW H) → Nat
  | [] => 0
  | d :: r => uptoBulk d + uptoBulkAll r
def uptoBulkEntries {H : Type} : List (Lit × DataW H) → Nat
  | [] => 0
  | x :: r => uptoBulkEntry x + uptoBulkEntries r
def uptoBulkEntry {H : Type} : Lit × DataW H → Nat
  | (.string bytes, d) => bytes.length + uptoBulk d + 1
  | (_, d) => uptoBulk d + 1
 end
def uptoSmall : (H : Type) → List (DataW H) → Bool := fun _ ds => decide (uptoBulkAll ds ≤ 1048576)
def OpenSpec.upto (s : _root_.Go.ChangeSpec) : _root_.Go.OpenSpec := { _root_.Go.OpenSpec.ofChange s with cond := some uptoSmall }

/-- 'laws.FnExactEqualCaptures', WHERE WHAT IT READS IS OF BULK AT MOST 1048576: true; the input reads as it did. -/
def fnExactEqualCapturesUptoRow : OpenClaim := { program := "ytnhnfomfeicilaa", sum := "6c51304b585b7f1251e287f9e4d04c5e0da74c9c79c97575ba7a4a43f163b2b4", func := "loop.example/g03002/laws.FnExactEqualCaptures", spec := "fnExactEqualCaptures", unfollowed := true, recurses := true, apart := false, narrowed := true }
def FnExactEqualCapturesUptoSaid : Prop := fnExactEqualCapturesUptoRow.holds Try.pinned (OpenSpec.upto fnExactEqualCapturesSpec)

/-- 'laws.FnExactAreCaptures', WHERE WHAT IT READS IS OF BULK AT MOST 1048576: true; the input reads as it did. -/
def fnExactAreCapturesUptoRow : OpenClaim := { program := "ytnhnfomfeicilaa", sum := "6c51304b585b7f1251e287f9e4d04c5e0da74c9c79c97575ba7a4a43f163b2b4", func := "loop.example/g03002/laws.FnExactAreCaptures", spec := "fnExactAreCaptures", unfollowed := true, recurses := true, apart := false, narrowed := true }
def FnExactAreCapturesUptoSaid : Prop := fnExactAreCapturesUptoRow.holds Try.pinned (OpenSpec.upto fnExactAreCapturesSpec)

/-- 'laws.FnExactSpanOf', WHERE WHAT IT READS IS OF BULK AT MOST 1048576: true; the input reads as it did. -/
def fnExactSpanOfUptoRow : OpenClaim := { program := "ytnhnfomfeicilaa", sum := "6c51304b585b7f1251e287f9e4d04c5e0da74c9c79c97575ba7a4a43f163b2b4", func := "loop.example/g03002/laws.FnExactSpanOf", spec := "fnExactSpanOf", apart := false, narrowed := true }
def FnExactSpanOfUptoSaid : Prop := fnExactSpanOfUptoRow.holds Try.pinned (OpenSpec.upto fnExactSpanOfSpec)

/-- 'laws.FnExactFitsForm', WHERE WHAT IT READS IS OF BULK AT MOST 1048576: true; the input reads as it did. -/
def fnExactFitsFormUptoRow : OpenClaim := { program := "ytnhnfomfeicilaa", sum := "6c51304b585b7f1251e287f9e4d04c5e0da74c9c79c97575ba7a4a43f163b2b4", func := "loop.example/g03002/laws.FnExactFitsForm", spec := "fnExactFitsForm", apart := false, narrowed := true }
def FnExactFitsFormUptoSaid : Prop := fnExactFitsFormUptoRow.holds Try.pinned (OpenSpec.upto fnExactFitsFormSpec)

/-- 'laws.FnExactIsMarked', WHERE WHAT IT READS IS OF BULK AT MOST 1048576: true; the input reads as it did. -/
def fnExactIsMarkedUptoRow : OpenClaim := { program := "ytnhnfomfeicilaa", sum := "6c51304b585b7f1251e287f9e4d04c5e0da74c9c79c97575ba7a4a43f163b2b4", func := "loop.example/g03002/laws.FnExactIsMarked", spec := "fnExactIsMarked", apart := false, narrowed := true }
def FnExactIsMarkedUptoSaid : Prop := fnExactIsMarkedUptoRow.holds Try.pinned (OpenSpec.upto fnExactIsMarkedSpec)

/-- 'laws.FnExactResourceBy', WHERE WHAT IT READS IS OF BULK AT MOST 1048576: true; the input reads as it did. -/
def fnExactResourceByUptoRow : OpenClaim := { program := "ytnhnfomfeicilaa", sum := "6c51304b585b7f1251e287f9e4d04c5e0da74c9c79c97575ba7a4a43f163b2b4", func := "loop.example/g03002/laws.FnExactResourceBy", spec := "fnExactResourceBy", apart := false, narrowed := true }
def FnExactResourceByUptoSaid : Prop := fnExactResourceByUptoRow.holds Try.pinned (OpenSpec.upto fnExactResourceBySpec)

/-- 'laws.FnExactIsMixed', WHERE WHAT IT READS IS OF BULK AT MOST 1048576: true; the input reads as it did. -/
def fnExactIsMixedUptoRow : OpenClaim := { program := "ytnhnfomfeicilaa", sum := "6c51304b585b7f1251e287f9e4d04c5e0da74c9c79c97575ba7a4a43f163b2b4", func := "loop.example/g03002/laws.FnExactIsMixed", spec := "fnExactIsMixed", apart := false, narrowed := true }
def FnExactIsMixedUptoSaid : Prop := fnExactIsMixedUptoRow.holds Try.pinned (OpenSpec.upto fnExactIsMixedSpec)

/-- 'laws.FnNearest', WHERE WHAT IT READS IS OF BULK AT MOST 1048576: true; the input reads as it did. -/
def fnNearestUptoRow : OpenClaim := { program := "ytnhnfomfeicilaa", sum := "6c51304b585b7f1251e287f9e4d04c5e0da74c9c79c97575ba7a4a43f163b2b4", func := "loop.example/g03002/laws.FnNearest", spec := "fnNearest", unfollowed := true, recurses := true, apart := false, narrowed := true }
def FnNearestUptoSaid : Prop := fnNearestUptoRow.holds Try.pinned (OpenSpec.upto fnNearestSpec)

/-- 'laws.FnExactIsVisit', WHERE WHAT IT READS IS OF BULK AT MOST 1048576: true; the input reads as it did. -/
def fnExactIsVisitUptoRow : OpenClaim := { program := "ytnhnfomfeicilaa", sum := "6c51304b585b7f1251e287f9e4d04c5e0da74c9c79c97575ba7a4a43f163b2b4", func := "loop.example/g03002/laws.FnExactIsVisit", spec := "fnExactIsVisit", unfollowed := true, recurses := true, apart := false, narrowed := true }
def FnExactIsVisitUptoSaid : Prop := fnExactIsVisitUptoRow.holds Try.pinned (OpenSpec.upto fnExactIsVisitSpec)

/-- 'laws.FnExactWantOf', WHERE WHAT IT READS IS OF BULK AT MOST 1048576: true; the input reads as it did. -/
def fnExactWantOfUptoRow : OpenClaim := { program := "ytnhnfomfeicilaa", sum := "6c51304b585b7f1251e287f9e4d04c5e0da74c9c79c97575ba7a4a43f163b2b4", func := "loop.example/g03002/laws.FnExactWantOf", spec := "fnExactWantOf", unfollowed := true, recurses := true, apart := false, narrowed := true }
def FnExactWantOfUptoSaid : Prop := fnExactWantOfUptoRow.holds Try.pinned (OpenSpec.upto fnExactWantOfSpec)

/-- 'laws.FnMachine', WHERE WHAT IT READS IS OF BULK AT MOST 1048576: true; the input reads as it did. -/
def fnMachineUptoRow : OpenClaim := { program := "ytnhnfomfeicilaa", sum := "6c51304b585b7f1251e287f9e4d04c5e0da74c9c79c97575ba7a4a43f163b2b4", func := "loop.example/g03002/laws.FnMachine", spec := "fnMachine", unfollowed := true, recurses := true, apart := false, narrowed := true }
def FnMachineUptoSaid : Prop := fnMachineUptoRow.holds Try.pinned (OpenSpec.upto fnMachineSpec)

/-- 'laws.FnExactCountFits', WHERE WHAT IT READS IS OF BULK AT MOST 1048576: true; the input reads as it did. -/
def fnExactCountFitsUptoRow : OpenClaim := { program := "ytnhnfomfeicilaa", sum := "6c51304b585b7f1251e287f9e4d04c5e0da74c9c79c97575ba7a4a43f163b2b4", func := "loop.example/g03002/laws.FnExactCountFits", spec := "fnExactCountFits", apart := false, narrowed := true }
def FnExactCountFitsUptoSaid : Prop := fnExactCountFitsUptoRow.holds Try.pinned (OpenSpec.upto fnExactCountFitsSpec)

end Rows
end Go.Proofs.Ytnhnfomfeicilaa
