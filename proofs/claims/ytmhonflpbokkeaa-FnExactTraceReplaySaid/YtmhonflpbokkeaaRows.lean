/-
  No cell of these rows narrows 'for every input' (looked for: loops, veiled, ifaces, maps, wideKeys, modest, calm, conditions, laid).
  DERIVED. THE GIVEN ROWS OF THIS SEAT. 5 by the template 'for every input the law returns true; each argument reads behind the call as it read before'; 0 by the template 'total and deterministic' (their statements: YtmhonflpbokkeaaTotals.lean).
  GIVEN WITH THE SEED: the statements are not yours to turn. If you find one false, say at which input.
  Laid BY PROGRAM, IN A SANDBOX (cutbox-rows.mjs): the forced cells as the released guide's own fill.sh prints them over the translation f3e57e43c9619ff5… (all of the seat's roots in one cut). By AI agents, Wed Nov 11 2026. No macro, syntax, notation, axiom, sorry.
-/
import Derived.Test.YtmhonflpbokkeaaChecked
import GoSem.Claim
import GoSem.ClaimJoined
import GoSem.ClaimMapViews
import Derived.JoinedTies
import Derived.KernelRfl
namespace Go.Proofs.Ytmhonflpbokkeaa
/- THE CELL 'sum', in the pinned program and in every row, IS THE sha256 OF THE DUMP (.gsa) THAT YtmhonflpbokkeaaProg.lean LOADS. Nothing in Lean hashes anything: it is a label: what it is worth is what the hold of that sum in a sandbox is worth. -/
noncomputable def Try.pinned : Pinned := { name := "ytmhonflpbokkeaa", sum := "f3e57e43c9619ff5709e8242340070750febec02ba4780934a0f527f5d8e3f4d", checked := Try.checked }
namespace Rows
def none {H : Type} : Left H := { results := [], args := [] }

/-- 'laws.FnExactTraceReplay': WHATEVER THE INPUT: true; the input reads as it did. -/
def fnExactTraceReplaySpec : ChangeSpec := { name := "fnExactTraceReplay", fn := fun _ => fun
  | [d1, d2] => { results := [.lit (.bool true)], args := [d1, d2] }
  | _ => none }
def fnExactTraceReplayRow : OpenClaim := { program := "ytmhonflpbokkeaa", sum := "f3e57e43c9619ff5709e8242340070750febec02ba4780934a0f527f5d8e3f4d", func := "loop.example/g03002/laws.FnExactTraceReplay", spec := "fnExactTraceReplay", unfollowed := true, recurses := true, apart := false }
def FnExactTraceReplaySaid : Prop := fnExactTraceReplayRow.holds Try.pinned (OpenSpec.ofChange fnExactTraceReplaySpec)

/-- ITS FALSE NEIGHBOUR: 'it returns false'. Refute it at one input. -/
def fnExactTraceReplayWrong : ChangeSpec := { name := "fnExactTraceReplay", fn := fun _ => fun
  | [d1, d2] => { results := [.lit (.bool false)], args := [d1, d2] }
  | _ => none }
def FnExactTraceReplayWrongFalsely : Prop := fnExactTraceReplayRow.holds Try.pinned (OpenSpec.ofChange fnExactTraceReplayWrong)

/-- 'laws.FnExactReplay': WHATEVER THE INPUT: true; the input reads as it did. -/
def fnExactReplaySpec : ChangeSpec := { name := "fnExactReplay", fn := fun _ => fun
  | [d1, d2] => { results := [.lit (.bool true)], args := [d1, d2] }
  | _ => none }
def fnExactReplayRow : OpenClaim := { program := "ytmhonflpbokkeaa", sum := "f3e57e43c9619ff5709e8242340070750febec02ba4780934a0f527f5d8e3f4d", func := "loop.example/g03002/laws.FnExactReplay", spec := "fnExactReplay", unfollowed := true, recurses := true, apart := false }
def FnExactReplaySaid : Prop := fnExactReplayRow.holds Try.pinned (OpenSpec.ofChange fnExactReplaySpec)

/-- ITS FALSE NEIGHBOUR: 'it returns false'. Refute it at one input. -/
def fnExactReplayWrong : ChangeSpec := { name := "fnExactReplay", fn := fun _ => fun
  | [d1, d2] => { results := [.lit (.bool false)], args := [d1, d2] }
  | _ => none }
def FnExactReplayWrongFalsely : Prop := fnExactReplayRow.holds Try.pinned (OpenSpec.ofChange fnExactReplayWrong)

/-- 'laws.FnExactTraceVisit': WHATEVER THE INPUT: true; the input reads as it did. -/
def fnExactTraceVisitSpec : ChangeSpec := { name := "fnExactTraceVisit", fn := fun _ => fun
  | [d1, d2] => { results := [.lit (.bool true)], args := [d1, d2] }
  | _ => none }
def fnExactTraceVisitRow : OpenClaim := { program := "ytmhonflpbokkeaa", sum := "f3e57e43c9619ff5709e8242340070750febec02ba4780934a0f527f5d8e3f4d", func := "loop.example/g03002/laws.FnExactTraceVisit", spec := "fnExactTraceVisit", unfollowed := true, recurses := true, apart := false }
def FnExactTraceVisitSaid : Prop := fnExactTraceVisitRow.holds Try.pinned (OpenSpec.ofChange fnExactTraceVisitSpec)

/-- ITS FALSE NEIGHBOUR: 'it returns false'. Refute it at one input. -/
def fnExactTraceVisitWrong : ChangeSpec := { name := "fnExactTraceVisit", fn := fun _ => fun
  | [d1, d2] => { results := [.lit (.bool false)], args := [d1, d2] }
  | _ => none }
def FnExactTraceVisitWrongFalsely : Prop := fnExactTraceVisitRow.holds Try.pinned (OpenSpec.ofChange fnExactTraceVisitWrong)

/-- 'laws.FnExactWanderOff': WHATEVER THE INPUT: true; the input reads as it did. -/
def fnExactWanderOffSpec : ChangeSpec := { name := "fnExactWanderOff", fn := fun _ => fun
  | [d1, d2, d3, d4] => { results := [.lit (.bool true)], args := [d1, d2, d3, d4] }
  | _ => none }
def fnExactWanderOffRow : OpenClaim := { program := "ytmhonflpbokkeaa", sum := "f3e57e43c9619ff5709e8242340070750febec02ba4780934a0f527f5d8e3f4d", func := "loop.example/g03002/laws.FnExactWanderOff", spec := "fnExactWanderOff", unfollowed := true, recurses := true, apart := false }
def FnExactWanderOffSaid : Prop := fnExactWanderOffRow.holds Try.pinned (OpenSpec.ofChange fnExactWanderOffSpec)

/-- ITS FALSE NEIGHBOUR: 'it returns false'. Refute it at one input. -/
def fnExactWanderOffWrong : ChangeSpec := { name := "fnExactWanderOff", fn := fun _ => fun
  | [d1, d2, d3, d4] => { results := [.lit (.bool false)], args := [d1, d2, d3, d4] }
  | _ => none }
def FnExactWanderOffWrongFalsely : Prop := fnExactWanderOffRow.holds Try.pinned (OpenSpec.ofChange fnExactWanderOffWrong)

/-- 'laws.FnWanders': WHATEVER THE INPUT: true; the input reads as it did. -/
def fnWandersSpec : ChangeSpec := { name := "fnWanders", fn := fun _ => fun
  | [d] => { results := [.lit (.bool true)], args := [d] }
  | _ => none }
def fnWandersRow : OpenClaim := { program := "ytmhonflpbokkeaa", sum := "f3e57e43c9619ff5709e8242340070750febec02ba4780934a0f527f5d8e3f4d", func := "loop.example/g03002/laws.FnWanders", spec := "fnWanders", unfollowed := true, recurses := true, apart := false }
def FnWandersSaid : Prop := fnWandersRow.holds Try.pinned (OpenSpec.ofChange fnWandersSpec)

/-- ITS FALSE NEIGHBOUR: 'it returns false'. Refute it at one input. -/
def fnWandersWrong : ChangeSpec := { name := "fnWanders", fn := fun _ => fun
  | [d] => { results := [.lit (.bool false)], args := [d] }
  | _ => none }
def FnWandersWrongFalsely : Prop := fnWandersRow.holds Try.pinned (OpenSpec.ofChange fnWandersWrong)

/- THE SECOND FORM. 'bulk': how many values and letters a reading holds, each counted each time it is reached (what is shared counts as often as it is met; a slice's spare places count too). A statement '..UptoSaid' is the law's where the arguments, and the package variables that the reading takes, are together of bulk at most 1048576: NARROWER than '..Said'. Prove '..Said' where nothing that the law and all that it calls make is longer than what came in: it says more and counts as full. Else prove '..UptoSaid'. A law counts once. -/
mutual
def uptoBulk {H : Type} : DataW H → Nat
  | .lit (.string bytes) => bytes.length + 1
  | .lit _ => 1
  | .nil => 1
  | .ptr d => uptoBulk d + 1
  | .slice elems spare => uptoBulkAll elems + uptoBulkAll spare + 1
  | .agg parts => uptoBulkAll parts + 1
  | .iface _ d => uptoBulk d + 1
  | .map entries => uptoBulkEntries entries + 1
  | .held _ => 1
def uptoBulkAll {H : Type} : List (DataW H) → Nat
  | [] => 0
  | d :: r => uptoBulk d + uptoBulkAll r
def uptoBulkEntries {H : Type} : List (Lit × DataW H) → Nat
  | [] => 0
  | x :: r => uptoBulkEntry x + uptoBulkEntries r
def uptoBulkEntry {H : Type} : Lit × DataW H → Nat
  | (.string bytes, d) => bytes.length + uptoBulk d + 1
  | (_, d) => uptoBulk d + 1
 end
def uptoSmall : (H : Type) → List (DataW H) → Bool := fun _ ds => decide (uptoBulkAll ds ≤ 1048576)
def OpenSpec.upto (s : _root_.Go.ChangeSpec) : _root_.Go.OpenSpec := { _root_.Go.OpenSpec.ofChange s with cond := some uptoSmall }

/-- 'laws.FnExactTraceReplay', WHERE WHAT IT READS IS OF BULK AT MOST 1048576: true; the input reads as it did. -/
def fnExactTraceReplayUptoRow : OpenClaim := { program := "ytmhonflpbokkeaa", sum := "f3e57e43c9619ff5709e8242340070750febec02ba4780934a0f527f5d8e3f4d", func := "loop.example/g03002/laws.FnExactTraceReplay", spec := "fnExactTraceReplay", unfollowed := true, recurses := true, apart := false, narrowed := true }
def FnExactTraceReplayUptoSaid : Prop := fnExactTraceReplayUptoRow.holds Try.pinned (OpenSpec.upto fnExactTraceReplaySpec)

/-- 'laws.FnExactReplay', WHERE WHAT IT READS IS OF BULK AT MOST 1048576: true; the input reads as it did. -/
def fnExactReplayUptoRow : OpenClaim := { program := "ytmhonflpbokkeaa", sum := "f3e57e43c9619ff5709e8242340070750febec02ba4780934a0f527f5d8e3f4d", func := "loop.example/g03002/laws.FnExactReplay", spec := "fnExactReplay", unfollowed := true, recurses := true, apart := false, narrowed := true }
def FnExactReplayUptoSaid : Prop := fnExactReplayUptoRow.holds Try.pinned (OpenSpec.upto fnExactReplaySpec)

/-- 'laws.FnExactTraceVisit', WHERE WHAT IT READS IS OF BULK AT MOST 1048576: true; the input reads as it did. -/
def fnExactTraceVisitUptoRow : OpenClaim := { program := "ytmhonflpbokkeaa", sum := "f3e57e43c9619ff5709e8242340070750febec02ba4780934a0f527f5d8e3f4d", func := "loop.example/g03002/laws.FnExactTraceVisit", spec := "fnExactTraceVisit", unfollowed := true, recurses := true, apart := false, narrowed := true }
def FnExactTraceVisitUptoSaid : Prop := fnExactTraceVisitUptoRow.holds Try.pinned (OpenSpec.upto fnExactTraceVisitSpec)

/-- 'laws.FnExactWanderOff', WHERE WHAT IT READS IS OF BULK AT MOST 1048576: true; the input reads as it did. -/
def fnExactWanderOffUptoRow : OpenClaim := { program := "ytmhonflpbokkeaa", sum := "f3e57e43c9619ff5709e8242340070750febec02ba4780934a0f527f5d8e3f4d", func := "loop.example/g03002/laws.FnExactWanderOff", spec := "fnExactWanderOff", unfollowed := true, recurses := true, apart := false, narrowed := true }
def FnExactWanderOffUptoSaid : Prop := fnExactWanderOffUptoRow.holds Try.pinned (OpenSpec.upto fnExactWanderOffSpec)

/-- 'laws.FnWanders', WHERE WHAT IT READS IS OF BULK AT MOST 1048576: true; the input reads as it did. -/
def fnWandersUptoRow : OpenClaim := { program := "ytmhonflpbokkeaa", sum := "f3e57e43c9619ff5709e8242340070750febec02ba4780934a0f527f5d8e3f4d", func := "loop.example/g03002/laws.FnWanders", spec := "fnWanders", unfollowed := true, recurses := true, apart := false, narrowed := true }
def FnWandersUptoSaid : Prop := fnWandersUptoRow.holds Try.pinned (OpenSpec.upto fnWandersSpec)

end Rows
end Go.Proofs.Ytmhonflpbokkeaa
