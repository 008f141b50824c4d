/-
  No cell of these rows narrows 'for every input' (looked for: loops, veiled, ifaces, maps, wideKeys, modest, calm, conditions, laid).
  DERIVED. THE GIVEN ROWS OF THIS SEAT. 7 by the template 'for every input the law returns true; each argument reads behind the call as it read before'; 0 by the template 'total and deterministic' (their statements: YtdpkidjddlnafaaTotals.lean).
  GIVEN WITH THE SEED: the statements are not yours to turn. If you find one false, say at which input.
  Laid BY PROGRAM, IN A SANDBOX (cutbox-rows.mjs): the forced cells as the released guide's own fill.sh prints them over the translation ca9d65406504bc98… (all of the seat's roots in one cut). By AI agents, Wed Nov 11 2026. No macro, syntax, notation, axiom, sorry.
-/
import Derived.Test.YtdpkidjddlnafaaChecked
import GoSem.Claim
import GoSem.ClaimJoined
import GoSem.ClaimMapViews
import Derived.JoinedTies
import Derived.KernelRfl
namespace Go.Proofs.Ytdpkidjddlnafaa
/- THE CELL 'sum', in the pinned program and in every row, IS THE sha256 OF THE DUMP (.gsa) THAT YtdpkidjddlnafaaProg.lean LOADS. Nothing in Lean hashes anything: it is a label: what it is worth is what the hold of that sum in a sandbox is worth. -/
noncomputable def Try.pinned : Pinned := { name := "ytdpkidjddlnafaa", sum := "ca9d65406504bc980600b0cc7bb919494b242ac46e221bbf1e7c8f459f7f3087", checked := Try.checked }
namespace Rows
def none {H : Type} : Left H := { results := [], args := [] }

/-- 'laws.FnSites': WHATEVER THE INPUT: true; the input reads as it did. -/
def fnSitesSpec : ChangeSpec := { name := "fnSites", fn := fun _ => fun
  | [d] => { results := [.lit (.bool true)], args := [d] }
  | _ => none }
def fnSitesRow : OpenClaim := { program := "ytdpkidjddlnafaa", sum := "ca9d65406504bc980600b0cc7bb919494b242ac46e221bbf1e7c8f459f7f3087", func := "loop.example/g03002/laws.FnSites", spec := "fnSites", recurses := true, apart := false }
def FnSitesSaid : Prop := fnSitesRow.holds Try.pinned (OpenSpec.ofChange fnSitesSpec)

/-- ITS FALSE NEIGHBOUR: 'it returns false'. Refute it at one input. -/
def fnSitesWrong : ChangeSpec := { name := "fnSites", fn := fun _ => fun
  | [d] => { results := [.lit (.bool false)], args := [d] }
  | _ => none }
def FnSitesWrongFalsely : Prop := fnSitesRow.holds Try.pinned (OpenSpec.ofChange fnSitesWrong)

/-- 'laws.FnExactChangesOf': WHATEVER THE INPUT: true; the input reads as it did. -/
def fnExactChangesOfSpec : ChangeSpec := { name := "fnExactChangesOf", fn := fun _ => fun
  | [d1, d2] => { results := [.lit (.bool true)], args := [d1, d2] }
  | _ => none }
def fnExactChangesOfRow : OpenClaim := { program := "ytdpkidjddlnafaa", sum := "ca9d65406504bc980600b0cc7bb919494b242ac46e221bbf1e7c8f459f7f3087", func := "loop.example/g03002/laws.FnExactChangesOf", spec := "fnExactChangesOf", recurses := true, apart := false }
def FnExactChangesOfSaid : Prop := fnExactChangesOfRow.holds Try.pinned (OpenSpec.ofChange fnExactChangesOfSpec)

/-- ITS FALSE NEIGHBOUR: 'it returns false'. Refute it at one input. -/
def fnExactChangesOfWrong : ChangeSpec := { name := "fnExactChangesOf", fn := fun _ => fun
  | [d1, d2] => { results := [.lit (.bool false)], args := [d1, d2] }
  | _ => none }
def FnExactChangesOfWrongFalsely : Prop := fnExactChangesOfRow.holds Try.pinned (OpenSpec.ofChange fnExactChangesOfWrong)

/-- 'laws.FnExactTicksOf': WHATEVER THE INPUT: true; the input reads as it did. -/
def fnExactTicksOfSpec : ChangeSpec := { name := "fnExactTicksOf", fn := fun _ => fun
  | [d1, d2] => { results := [.lit (.bool true)], args := [d1, d2] }
  | _ => none }
def fnExactTicksOfRow : OpenClaim := { program := "ytdpkidjddlnafaa", sum := "ca9d65406504bc980600b0cc7bb919494b242ac46e221bbf1e7c8f459f7f3087", func := "loop.example/g03002/laws.FnExactTicksOf", spec := "fnExactTicksOf", recurses := true, apart := false }
def FnExactTicksOfSaid : Prop := fnExactTicksOfRow.holds Try.pinned (OpenSpec.ofChange fnExactTicksOfSpec)

/-- ITS FALSE NEIGHBOUR: 'it returns false'. Refute it at one input. -/
def fnExactTicksOfWrong : ChangeSpec := { name := "fnExactTicksOf", fn := fun _ => fun
  | [d1, d2] => { results := [.lit (.bool false)], args := [d1, d2] }
  | _ => none }
def FnExactTicksOfWrongFalsely : Prop := fnExactTicksOfRow.holds Try.pinned (OpenSpec.ofChange fnExactTicksOfWrong)

/-- 'laws.FnExactIsMarked': WHATEVER THE INPUT: true; the input reads as it did. -/
def fnExactIsMarkedSpec : ChangeSpec := { name := "fnExactIsMarked", fn := fun _ => fun
  | [d] => { results := [.lit (.bool true)], args := [d] }
  | _ => none }
def fnExactIsMarkedRow : OpenClaim := { program := "ytdpkidjddlnafaa", sum := "ca9d65406504bc980600b0cc7bb919494b242ac46e221bbf1e7c8f459f7f3087", func := "loop.example/g03002/laws.FnExactIsMarked", spec := "fnExactIsMarked", apart := false }
def FnExactIsMarkedSaid : Prop := fnExactIsMarkedRow.holds Try.pinned (OpenSpec.ofChange fnExactIsMarkedSpec)

/-- ITS FALSE NEIGHBOUR: 'it returns false'. Refute it at one input. -/
def fnExactIsMarkedWrong : ChangeSpec := { name := "fnExactIsMarked", fn := fun _ => fun
  | [d] => { results := [.lit (.bool false)], args := [d] }
  | _ => none }
def FnExactIsMarkedWrongFalsely : Prop := fnExactIsMarkedRow.holds Try.pinned (OpenSpec.ofChange fnExactIsMarkedWrong)

/-- 'laws.FnExactAddCaptures': WHATEVER THE INPUT: true; the input reads as it did. -/
def fnExactAddCapturesSpec : ChangeSpec := { name := "fnExactAddCaptures", fn := fun _ => fun
  | [d1, d2] => { results := [.lit (.bool true)], args := [d1, d2] }
  | _ => none }
def fnExactAddCapturesRow : OpenClaim := { program := "ytdpkidjddlnafaa", sum := "ca9d65406504bc980600b0cc7bb919494b242ac46e221bbf1e7c8f459f7f3087", func := "loop.example/g03002/laws.FnExactAddCaptures", spec := "fnExactAddCaptures", unfollowed := true, recurses := true, apart := false }
def FnExactAddCapturesSaid : Prop := fnExactAddCapturesRow.holds Try.pinned (OpenSpec.ofChange fnExactAddCapturesSpec)

/-- ITS FALSE NEIGHBOUR: 'it returns false'. Refute it at one input. -/
def fnExactAddCapturesWrong : ChangeSpec := { name := "fnExactAddCaptures", fn := fun _ => fun
  | [d1, d2] => { results := [.lit (.bool false)], args := [d1, d2] }
  | _ => none }
def FnExactAddCapturesWrongFalsely : Prop := fnExactAddCapturesRow.holds Try.pinned (OpenSpec.ofChange fnExactAddCapturesWrong)

/-- 'laws.FnExactLearnForm': WHATEVER THE INPUT: true; the input reads as it did. -/
def fnExactLearnFormSpec : ChangeSpec := { name := "fnExactLearnForm", fn := fun _ => fun
  | [d1, d2] => { results := [.lit (.bool true)], args := [d1, d2] }
  | _ => none }
def fnExactLearnFormRow : OpenClaim := { program := "ytdpkidjddlnafaa", sum := "ca9d65406504bc980600b0cc7bb919494b242ac46e221bbf1e7c8f459f7f3087", func := "loop.example/g03002/laws.FnExactLearnForm", spec := "fnExactLearnForm", unfollowed := true, recurses := true, apart := false }
def FnExactLearnFormSaid : Prop := fnExactLearnFormRow.holds Try.pinned (OpenSpec.ofChange fnExactLearnFormSpec)

/-- ITS FALSE NEIGHBOUR: 'it returns false'. Refute it at one input. -/
def fnExactLearnFormWrong : ChangeSpec := { name := "fnExactLearnForm", fn := fun _ => fun
  | [d1, d2] => { results := [.lit (.bool false)], args := [d1, d2] }
  | _ => none }
def FnExactLearnFormWrongFalsely : Prop := fnExactLearnFormRow.holds Try.pinned (OpenSpec.ofChange fnExactLearnFormWrong)

/-- 'laws.FnForms': WHATEVER THE INPUT: true; the input reads as it did. -/
def fnFormsSpec : ChangeSpec := { name := "fnForms", fn := fun _ => fun
  | [d] => { results := [.lit (.bool true)], args := [d] }
  | _ => none }
def fnFormsRow : OpenClaim := { program := "ytdpkidjddlnafaa", sum := "ca9d65406504bc980600b0cc7bb919494b242ac46e221bbf1e7c8f459f7f3087", func := "loop.example/g03002/laws.FnForms", spec := "fnForms", unfollowed := true, recurses := true, apart := false }
def FnFormsSaid : Prop := fnFormsRow.holds Try.pinned (OpenSpec.ofChange fnFormsSpec)

/-- ITS FALSE NEIGHBOUR: 'it returns false'. Refute it at one input. -/
def fnFormsWrong : ChangeSpec := { name := "fnForms", fn := fun _ => fun
  | [d] => { results := [.lit (.bool false)], args := [d] }
  | _ => none }
def FnFormsWrongFalsely : Prop := fnFormsRow.holds Try.pinned (OpenSpec.ofChange fnFormsWrong)

/- THE SECOND FORM. 'bulk': how many values and letters a reading holds, each counted each time it is reached (what is shared counts as often as it is met; a slice's spare places count too). A statement '..UptoSaid' is the law's where the arguments, and the package variables that the reading takes, are together of bulk at most 1048576: NARROWER than '..Said'. Prove '..Said' where nothing that the law and all that it calls make is longer than what came in: it says more and counts as full. Else prove '..UptoSaid'. A law counts once. -/
mutual
def uptoBulk {H : Type} : DataW H → Nat
  | .lit (.string bytes) => bytes.length + 1
  | .lit _ => 1
  | .nil => 1
  | .ptr d => uptoBulk d + 1
  | .slice elems spare => uptoBulkAll elems + uptoBulkAll spare + 1
  | .agg parts => uptoBulkAll parts + 1
  | .iface _ d => uptoBulk d + 1
  | .map entries => uptoBulkEntries entries + 1
  | .held _ => 1
def uptoBulkAll {H : Type} : List (DataW H) → Nat
  | [] => 0
  | d :: r => uptoBulk d + uptoBulkAll r
def uptoBulkEntries {H : Type} : List (Lit × DataW H) → Nat
  | [] => 0
  | x :: r => uptoBulkEntry x + uptoBulkEntries r
def uptoBulkEntry {H : Type} : Lit × DataW H → Nat
  | (.string bytes, d) => bytes.length + uptoBulk d + 1
  | (_, d) => uptoBulk d + 1
 end
def uptoSmall : (H : Type) → List (DataW H) → Bool := fun _ ds => decide (uptoBulkAll ds ≤ 1048576)
def OpenSpec.upto (s : _root_.Go.ChangeSpec) : _root_.Go.OpenSpec := { _root_.Go.OpenSpec.ofChange s with cond := some uptoSmall }

/-- 'laws.FnSites', WHERE WHAT IT READS IS OF BULK AT MOST 1048576: true; the input reads as it did. -/
def fnSitesUptoRow : OpenClaim := { program := "ytdpkidjddlnafaa", sum := "ca9d65406504bc980600b0cc7bb919494b242ac46e221bbf1e7c8f459f7f3087", func := "loop.example/g03002/laws.FnSites", spec := "fnSites", recurses := true, apart := false, narrowed := true }
def FnSitesUptoSaid : Prop := fnSitesUptoRow.holds Try.pinned (OpenSpec.upto fnSitesSpec)

/-- 'laws.FnExactChangesOf', WHERE WHAT IT READS IS OF BULK AT MOST 1048576: true; the input reads as it did. -/
def fnExactChangesOfUptoRow : OpenClaim := { program := "ytdpkidjddlnafaa", sum := "ca9d65406504bc980600b0cc7bb919494b242ac46e221bbf1e7c8f459f7f3087", func := "loop.example/g03002/laws.FnExactChangesOf", spec := "fnExactChangesOf", recurses := true, apart := false, narrowed := true }
def FnExactChangesOfUptoSaid : Prop := fnExactChangesOfUptoRow.holds Try.pinned (OpenSpec.upto fnExactChangesOfSpec)

/-- 'laws.FnExactTicksOf', WHERE WHAT IT READS IS OF BULK AT MOST 1048576: true; the input reads as it did. -/
def fnExactTicksOfUptoRow : OpenClaim := { program := "ytdpkidjddlnafaa", sum := "ca9d65406504bc980600b0cc7bb919494b242ac46e221bbf1e7c8f459f7f3087", func := "loop.example/g03002/laws.FnExactTicksOf", spec := "fnExactTicksOf", recurses := true, apart := false, narrowed := true }
def FnExactTicksOfUptoSaid : Prop := fnExactTicksOfUptoRow.holds Try.pinned (OpenSpec.upto fnExactTicksOfSpec)

/-- 'laws.FnExactIsMarked', WHERE WHAT IT READS IS OF BULK AT MOST 1048576: true; the input reads as it did. -/
def fnExactIsMarkedUptoRow : OpenClaim := { program := "ytdpkidjddlnafaa", sum := "ca9d65406504bc980600b0cc7bb919494b242ac46e221bbf1e7c8f459f7f3087", func := "loop.example/g03002/laws.FnExactIsMarked", spec := "fnExactIsMarked", apart := false, narrowed := true }
def FnExactIsMarkedUptoSaid : Prop := fnExactIsMarkedUptoRow.holds Try.pinned (OpenSpec.upto fnExactIsMarkedSpec)

/-- 'laws.FnExactAddCaptures', WHERE WHAT IT READS IS OF BULK AT MOST 1048576: true; the input reads as it did. -/
def fnExactAddCapturesUptoRow : OpenClaim := { program := "ytdpkidjddlnafaa", sum := "ca9d65406504bc980600b0cc7bb919494b242ac46e221bbf1e7c8f459f7f3087", func := "loop.example/g03002/laws.FnExactAddCaptures", spec := "fnExactAddCaptures", unfollowed := true, recurses := true, apart := false, narrowed := true }
def FnExactAddCapturesUptoSaid : Prop := fnExactAddCapturesUptoRow.holds Try.pinned (OpenSpec.upto fnExactAddCapturesSpec)

/-- 'laws.FnExactLearnForm', WHERE WHAT IT READS IS OF BULK AT MOST 1048576: true; the input reads as it did. -/
def fnExactLearnFormUptoRow : OpenClaim := { program := "ytdpkidjddlnafaa", sum := "ca9d65406504bc980600b0cc7bb919494b242ac46e221bbf1e7c8f459f7f3087", func := "loop.example/g03002/laws.FnExactLearnForm", spec := "fnExactLearnForm", unfollowed := true, recurses := true, apart := false, narrowed := true }
def FnExactLearnFormUptoSaid : Prop := fnExactLearnFormUptoRow.holds Try.pinned (OpenSpec.upto fnExactLearnFormSpec)

/-- 'laws.FnForms', WHERE WHAT IT READS IS OF BULK AT MOST 1048576: true; the input reads as it did. -/
def fnFormsUptoRow : OpenClaim := { program := "ytdpkidjddlnafaa", sum := "ca9d65406504bc980600b0cc7bb919494b242ac46e221bbf1e7c8f459f7f3087", func := "loop.example/g03002/laws.FnForms", spec := "fnForms", unfollowed := true, recurses := true, apart := false, narrowed := true }
def FnFormsUptoSaid : Prop := fnFormsUptoRow.holds Try.pinned (OpenSpec.upto fnFormsSpec)

end Rows
end Go.Proofs.Ytdpkidjddlnafaa
