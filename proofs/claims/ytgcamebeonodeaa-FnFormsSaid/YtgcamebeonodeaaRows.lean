/-
  No cell of these rows narrows 'for every input' (looked for: loops, veiled, ifaces, maps, wideKeys, modest, calm, conditions, laid).
  DERIVED. THE GIVEN ROWS OF THIS SEAT. 7 by the template 'for every input the law returns true; each argument reads behind the call as it read before'; 0 by the template 'total and deterministic' (their statements: YtgcamebeonodeaaTotals.lean).
  GIVEN WITH THE SEED: the statements are not yours to turn. If you find one false, say at which input.
  Laid BY PROGRAM, IN A SANDBOX (cutbox-rows.mjs): the forced cells as the released guide's own fill.sh prints them over the translation d52295667d53c9ce… (all of the seat's roots in one cut). By AI agents, Wed Nov 11 2026. No macro, syntax, notation, axiom, sorry.
-/
import Derived.Test.YtgcamebeonodeaaChecked
import GoSem.Claim
import GoSem.ClaimJoined
import GoSem.ClaimMapViews
import Derived.JoinedTies
import Derived.KernelRfl
namespace Go.Proofs.Ytgcamebeonodeaa
/- THE CELL 'sum', in the pinned program and in every row, IS THE sha256 OF THE DUMP (.gsa) THAT YtgcamebeonodeaaProg.lean LOADS. Nothing in Lean hashes anything: it is a label: what it is worth is what the hold of that sum in a sandbox is worth. -/
noncomputable def Try.pinned : Pinned := { name := "ytgcamebeonodeaa", sum := "d52295667d53c9ce8e837f8bd7c654440b5a200859f001ecd11bf7f7a9398c2d", checked := Try.checked }
namespace Rows
def none {H : Type} : Left H := { results := [], args := [] }

/-- 'laws.FnNearest': WHATEVER THE INPUT: true; the input reads as it did. -/
def fnNearestSpec : ChangeSpec := { name := "fnNearest", fn := fun _ => fun
  | [d] => { results := [.lit (.bool true)], args := [d] }
  | _ => none }
def fnNearestRow : OpenClaim := { program := "ytgcamebeonodeaa", sum := "d52295667d53c9ce8e837f8bd7c654440b5a200859f001ecd11bf7f7a9398c2d", func := "loop.example/g03002/laws.FnNearest", spec := "fnNearest", unfollowed := true, recurses := true, apart := false }
def FnNearestSaid : Prop := fnNearestRow.holds Try.pinned (OpenSpec.ofChange fnNearestSpec)

/-- ITS FALSE NEIGHBOUR: 'it returns false'. Refute it at one input. -/
def fnNearestWrong : ChangeSpec := { name := "fnNearest", fn := fun _ => fun
  | [d] => { results := [.lit (.bool false)], args := [d] }
  | _ => none }
def FnNearestWrongFalsely : Prop := fnNearestRow.holds Try.pinned (OpenSpec.ofChange fnNearestWrong)

/-- 'laws.FnMachine': WHATEVER THE INPUT: true; the input reads as it did. -/
def fnMachineSpec : ChangeSpec := { name := "fnMachine", fn := fun _ => fun
  | [d] => { results := [.lit (.bool true)], args := [d] }
  | _ => none }
def fnMachineRow : OpenClaim := { program := "ytgcamebeonodeaa", sum := "d52295667d53c9ce8e837f8bd7c654440b5a200859f001ecd11bf7f7a9398c2d", func := "loop.example/g03002/laws.FnMachine", spec := "fnMachine", unfollowed := true, recurses := true, apart := false }
def FnMachineSaid : Prop := fnMachineRow.holds Try.pinned (OpenSpec.ofChange fnMachineSpec)

/-- ITS FALSE NEIGHBOUR: 'it returns false'. Refute it at one input. -/
def fnMachineWrong : ChangeSpec := { name := "fnMachine", fn := fun _ => fun
  | [d] => { results := [.lit (.bool false)], args := [d] }
  | _ => none }
def FnMachineWrongFalsely : Prop := fnMachineRow.holds Try.pinned (OpenSpec.ofChange fnMachineWrong)

/-- 'laws.FnVisits': WHATEVER THE INPUT: true; the input reads as it did. -/
def fnVisitsSpec : ChangeSpec := { name := "fnVisits", fn := fun _ => fun
  | [d] => { results := [.lit (.bool true)], args := [d] }
  | _ => none }
def fnVisitsRow : OpenClaim := { program := "ytgcamebeonodeaa", sum := "d52295667d53c9ce8e837f8bd7c654440b5a200859f001ecd11bf7f7a9398c2d", func := "loop.example/g03002/laws.FnVisits", spec := "fnVisits", unfollowed := true, recurses := true, apart := false }
def FnVisitsSaid : Prop := fnVisitsRow.holds Try.pinned (OpenSpec.ofChange fnVisitsSpec)

/-- ITS FALSE NEIGHBOUR: 'it returns false'. Refute it at one input. -/
def fnVisitsWrong : ChangeSpec := { name := "fnVisits", fn := fun _ => fun
  | [d] => { results := [.lit (.bool false)], args := [d] }
  | _ => none }
def FnVisitsWrongFalsely : Prop := fnVisitsRow.holds Try.pinned (OpenSpec.ofChange fnVisitsWrong)

/-- 'laws.FnExactStepState': WHATEVER THE INPUT: true; the input reads as it did. -/
def fnExactStepStateSpec : ChangeSpec := { name := "fnExactStepState", fn := fun _ => fun
  | [d1, d2, d3] => { results := [.lit (.bool true)], args := [d1, d2, d3] }
  | _ => none }
def fnExactStepStateRow : OpenClaim := { program := "ytgcamebeonodeaa", sum := "d52295667d53c9ce8e837f8bd7c654440b5a200859f001ecd11bf7f7a9398c2d", func := "loop.example/g03002/laws.FnExactStepState", spec := "fnExactStepState", unfollowed := true, recurses := true, apart := false }
def FnExactStepStateSaid : Prop := fnExactStepStateRow.holds Try.pinned (OpenSpec.ofChange fnExactStepStateSpec)

/-- ITS FALSE NEIGHBOUR: 'it returns false'. Refute it at one input. -/
def fnExactStepStateWrong : ChangeSpec := { name := "fnExactStepState", fn := fun _ => fun
  | [d1, d2, d3] => { results := [.lit (.bool false)], args := [d1, d2, d3] }
  | _ => none }
def FnExactStepStateWrongFalsely : Prop := fnExactStepStateRow.holds Try.pinned (OpenSpec.ofChange fnExactStepStateWrong)

/-- 'laws.FnExactLearnForm': WHATEVER THE INPUT: true; the input reads as it did. -/
def fnExactLearnFormSpec : ChangeSpec := { name := "fnExactLearnForm", fn := fun _ => fun
  | [d1, d2] => { results := [.lit (.bool true)], args := [d1, d2] }
  | _ => none }
def fnExactLearnFormRow : OpenClaim := { program := "ytgcamebeonodeaa", sum := "d52295667d53c9ce8e837f8bd7c654440b5a200859f001ecd11bf7f7a9398c2d", func := "loop.example/g03002/laws.FnExactLearnForm", spec := "fnExactLearnForm", unfollowed := true, recurses := true, apart := false }
def FnExactLearnFormSaid : Prop := fnExactLearnFormRow.holds Try.pinned (OpenSpec.ofChange fnExactLearnFormSpec)

/-- ITS FALSE NEIGHBOUR: 'it returns false'. Refute it at one input. -/
def fnExactLearnFormWrong : ChangeSpec := { name := "fnExactLearnForm", fn := fun _ => fun
  | [d1, d2] => { results := [.lit (.bool false)], args := [d1, d2] }
  | _ => none }
def FnExactLearnFormWrongFalsely : Prop := fnExactLearnFormRow.holds Try.pinned (OpenSpec.ofChange fnExactLearnFormWrong)

/-- 'laws.FnForms': WHATEVER THE INPUT: true; the input reads as it did. -/
def fnFormsSpec : ChangeSpec := { name := "fnForms", fn := fun _ => fun
  | [d] => { results := [.lit (.bool true)], args := [d] }
  | _ => none }
def fnFormsRow : OpenClaim := { program := "ytgcamebeonodeaa", sum := "d52295667d53c9ce8e837f8bd7c654440b5a200859f001ecd11bf7f7a9398c2d", func := "loop.example/g03002/laws.FnForms", spec := "fnForms", unfollowed := true, recurses := true, apart := false }
def FnFormsSaid : Prop := fnFormsRow.holds Try.pinned (OpenSpec.ofChange fnFormsSpec)

/-- ITS FALSE NEIGHBOUR: 'it returns false'. Refute it at one input. -/
def fnFormsWrong : ChangeSpec := { name := "fnForms", fn := fun _ => fun
  | [d] => { results := [.lit (.bool false)], args := [d] }
  | _ => none }
def FnFormsWrongFalsely : Prop := fnFormsRow.holds Try.pinned (OpenSpec.ofChange fnFormsWrong)

/-- 'laws.FnExactAddCaptures': WHATEVER THE INPUT: true; the input reads as it did. -/
def fnExactAddCapturesSpec : ChangeSpec := { name := "fnExactAddCaptures", fn := fun _ => fun
  | [d1, d2] => { results := [.lit (.bool true)], args := [d1, d2] }
  | _ => none }
def fnExactAddCapturesRow : OpenClaim := { program := "ytgcamebeonodeaa", sum := "d52295667d53c9ce8e837f8bd7c654440b5a200859f001ecd11bf7f7a9398c2d", func := "loop.example/g03002/laws.FnExactAddCaptures", spec := "fnExactAddCaptures", unfollowed := true, recurses := true, apart := false }
def FnExactAddCapturesSaid : Prop := fnExactAddCapturesRow.holds Try.pinned (OpenSpec.ofChange fnExactAddCapturesSpec)

/-- ITS FALSE NEIGHBOUR: 'it returns false'. Refute it at one input. -/
def fnExactAddCapturesWrong : ChangeSpec := { name := "fnExactAddCaptures", fn := fun _ => fun
  | [d1, d2] => { results := [.lit (.bool false)], args := [d1, d2] }
  | _ => none }
def FnExactAddCapturesWrongFalsely : Prop := fnExactAddCapturesRow.holds Try.pinned (OpenSpec.ofChange fnExactAddCapturesWrong)

/- THE SECOND FORM. 'bulk': how many values and letters a reading holds, each counted each time it is reached (what is shared counts as often as it is met; a slice's spare places count too). A statement '..UptoSaid' is the law's where the arguments, and the package variables that the reading takes, are together of bulk at most 1048576: NARROWER than '..Said'. Prove '..Said' where nothing that the law and all that it calls make is longer than what came in: it says more and counts as full. Else prove '..UptoSaid'. A law counts once. -/
mutual
def uptoBulk {H : Type} : DataW H → Nat
  | .lit (.string bytes) => bytes.length + 1
  | .lit _ => 1
  | .nil => 1
  | .ptr d => uptoBulk d + 1
  | .slice elems spare => uptoBulkAll elems + uptoBulkAll spare + 1
  | .agg parts => uptoBulkAll parts + 1
  | .iface _ d => uptoBulk d + 1
  | .map entries => uptoBulkEntries entries + 1
  | .held _ => 1
def uptoBulkAll {H : Type} : List (DataW H) → Nat
  | [] => 0
  | d :: r => uptoBulk d + uptoBulkAll r
def uptoBulkEntries {H : Type} : List (Lit × DataW H) → Nat
  | [] => 0
  | x :: r => uptoBulkEntry x + uptoBulkEntries r
def uptoBulkEntry {H : Type} : Lit × DataW H → Nat
  | (.string bytes, d) => bytes.length + uptoBulk d + 1
  | (_, d) => uptoBulk d + 1
 end
def uptoSmall : (H : Type) → List (DataW H) → Bool := fun _ ds => decide (uptoBulkAll ds ≤ 1048576)
def OpenSpec.upto (s : _root_.Go.ChangeSpec) : _root_.Go.OpenSpec := { _root_.Go.OpenSpec.ofChange s with cond := some uptoSmall }

/-- 'laws.FnNearest', WHERE WHAT IT READS IS OF BULK AT MOST 1048576: true; the input reads as it did. -/
def fnNearestUptoRow : OpenClaim := { program := "ytgcamebeonodeaa", sum := "d52295667d53c9ce8e837f8bd7c654440b5a200859f001ecd11bf7f7a9398c2d", func := "loop.example/g03002/laws.FnNearest", spec := "fnNearest", unfollowed := true, recurses := true, apart := false, narrowed := true }
def FnNearestUptoSaid : Prop := fnNearestUptoRow.holds Try.pinned (OpenSpec.upto fnNearestSpec)

/-- 'laws.FnMachine', WHERE WHAT IT READS IS OF BULK AT MOST 1048576: true; the input reads as it did. -/
def fnMachineUptoRow : OpenClaim := { program := "ytgcamebeonodeaa", sum := "d52295667d53c9ce8e837f8bd7c654440b5a200859f001ecd11bf7f7a9398c2d", func := "loop.example/g03002/laws.FnMachine", spec := "fnMachine", unfollowed := true, recurses := true, apart := false, narrowed := true }
def FnMachineUptoSaid : Prop := fnMachineUptoRow.holds Try.pinned (OpenSpec.upto fnMachineSpec)

/-- 'laws.FnVisits', WHERE WHAT IT READS IS OF BULK AT MOST 1048576: true; the input reads as it did. -/
def fnVisitsUptoRow : OpenClaim := { program := "ytgcamebeonodeaa", sum := "d52295667d53c9ce8e837f8bd7c654440b5a200859f001ecd11bf7f7a9398c2d", func := "loop.example/g03002/laws.FnVisits", spec := "fnVisits", unfollowed := true, recurses := true, apart := false, narrowed := true }
def FnVisitsUptoSaid : Prop := fnVisitsUptoRow.holds Try.pinned (OpenSpec.upto fnVisitsSpec)

/-- 'laws.FnExactStepState', WHERE WHAT IT READS IS OF BULK AT MOST 1048576: true; the input reads as it did. -/
def fnExactStepStateUptoRow : OpenClaim := { program := "ytgcamebeonodeaa", sum := "d52295667d53c9ce8e837f8bd7c654440b5a200859f001ecd11bf7f7a9398c2d", func := "loop.example/g03002/laws.FnExactStepState", spec := "fnExactStepState", unfollowed := true, recurses := true, apart := false, narrowed := true }
def FnExactStepStateUptoSaid : Prop := fnExactStepStateUptoRow.holds Try.pinned (OpenSpec.upto fnExactStepStateSpec)

/-- 'laws.FnExactLearnForm', WHERE WHAT IT READS IS OF BULK AT MOST 1048576: true; the input reads as it did. -/
def fnExactLearnFormUptoRow : OpenClaim := { program := "ytgcamebeonodeaa", sum := "d52295667d53c9ce8e837f8bd7c654440b5a200859f001ecd11bf7f7a9398c2d", func := "loop.example/g03002/laws.FnExactLearnForm", spec := "fnExactLearnForm", unfollowed := true, recurses := true, apart := false, narrowed := true }
def FnExactLearnFormUptoSaid : Prop := fnExactLearnFormUptoRow.holds Try.pinned (OpenSpec.upto fnExactLearnFormSpec)

/-- 'laws.FnForms', WHERE WHAT IT READS IS OF BULK AT MOST 1048576: true; the input reads as it did. -/
def fnFormsUptoRow : OpenClaim := { program := "ytgcamebeonodeaa", sum := "d52295667d53c9ce8e837f8bd7c654440b5a200859f001ecd11bf7f7a9398c2d", func := "loop.example/g03002/laws.FnForms", spec := "fnForms", unfollowed := true, recurses := true, apart := false, narrowed := true }
def FnFormsUptoSaid : Prop := fnFormsUptoRow.holds Try.pinned (OpenSpec.upto fnFormsSpec)

/-- 'laws.FnExactAddCaptures', WHERE WHAT IT READS IS OF BULK AT MOST 1048576: true; the input reads as it did. -/
def fnExactAddCapturesUptoRow : OpenClaim := { program := "ytgcamebeonodeaa", sum := "d52295667d53c9ce8e837f8bd7c654440b5a200859f001ecd11bf7f7a9398c2d", func := "loop.example/g03002/laws.FnExactAddCaptures", spec := "fnExactAddCaptures", unfollowed := true, recurses := true, apart := false, narrowed := true }
def FnExactAddCapturesUptoSaid : Prop := fnExactAddCapturesUptoRow.holds Try.pinned (OpenSpec.upto fnExactAddCapturesSpec)

end Rows
end Go.Proofs.Ytgcamebeonodeaa
