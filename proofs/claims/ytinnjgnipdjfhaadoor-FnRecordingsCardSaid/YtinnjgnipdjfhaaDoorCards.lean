/-
  DERIVED. GIVEN WITH THE SEED: THE CARDS: each row of YtinnjgnipdjfhaaDoorRows.lean that lists a variable, with what it lists TIED to the program's text (the seventh form; the later family's looks); each row that meets fmt, with fmt's text TOLD by the authors' own Lean function (tested against real Go, not proved from fmt's source: count such statements apart). THE CARD IS WHAT COUNTS. Prove the row's statement (the work); the ties are given (YtinnjgnipdjfhaaDoorTie.lean); close each card by the builder's one call (the guide's Derived/Test/ToyasCard.lean, 'card_holds'). Laid BY PROGRAM, IN A SANDBOX (cutbox-door.mjs). By AI agents, Wed Nov 11 2026. No macro, syntax, notation, axiom, sorry.
-/
import Derived.Test.YtinnjgnipdjfhaaDoorRows
import GoSem.ClaimSeven
namespace Go.Proofs.YtinnjgnipdjfhaaDoor
namespace Rows

/-- THE TIED CARD OF 'laws.FnRecordings'. -/
def fnRecordingsCard : Claim7 := { stood := { row := fnRecordingsRow, standIns := [], harness := (true, "ef6842b688ba487b396c600a2c9e33c708d5cc5987920d2d35e7c821858179dc"), looks := false }, kinds := [], alts := [], laidByText := true, laidKinds := [.data, .data, .data], laidTests := true, laidLooks := .later }
def FnRecordingsCardSaid : Prop := Claim7.holds Tryd.pinned (.plain (OpenSpec.ofChange fnRecordingsSpec)) fnRecordingsCard

/-- THE SECOND FORM's CARD OF 'laws.FnRecordings'. -/
def fnRecordingsUptoCard : Claim7 := { stood := { row := fnRecordingsUptoRow, standIns := [], harness := (true, "ef6842b688ba487b396c600a2c9e33c708d5cc5987920d2d35e7c821858179dc"), looks := false }, kinds := [], alts := [], laidByText := true, laidKinds := [.data, .data, .data], laidTests := true, laidLooks := .later }
def FnRecordingsUptoCardSaid : Prop := Claim7.holds Tryd.pinned (.plain (OpenSpec.upto fnRecordingsSpec)) fnRecordingsUptoCard
end Rows
end Go.Proofs.YtinnjgnipdjfhaaDoor
