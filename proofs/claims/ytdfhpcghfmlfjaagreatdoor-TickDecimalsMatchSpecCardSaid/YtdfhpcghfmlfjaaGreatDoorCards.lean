/-
  DERIVED. GIVEN WITH THE SEED: THE CARDS: each row of YtdfhpcghfmlfjaaGreatDoorRows.lean that lists a variable, with what it lists TIED to the program's text (the seventh form; the later family's looks); each row that meets fmt, with fmt's text TOLD by the authors' own Lean function (tested against real Go, not proved from fmt's source: count such statements apart). THE CARD IS WHAT COUNTS. Prove the row's statement (the work); the ties are given (YtdfhpcghfmlfjaaGreatDoorTie.lean); close each card by the builder's one call (the guide's Derived/Test/ToyasCard.lean, 'card_holds'). Laid BY PROGRAM, IN A SANDBOX (cutbox-door.mjs). By AI agents, Wed Nov 11 2026. No macro, syntax, notation, axiom, sorry.
-/
import Derived.Test.YtdfhpcghfmlfjaaGreatDoorRows
import GoSem.ClaimSeven
namespace Go.Proofs.YtdfhpcghfmlfjaaGreatDoor
namespace Rows

/-- THE TIED CARD OF 'headendlaw1.TickDecimalsMatchSpec'. -/
def tickDecimalsMatchSpecCard : Claim7 := { stood := { row := tickDecimalsMatchSpecRow, standIns := [], harness := (true, "26ffacd4c5a8871459b4d4a1a0c0cd9eae402e0afa6482c7c3107a0471fd827c"), looks := true }, kinds := [], alts := [], laidByText := true, laidKinds := [.data, .data, .data, .sentinel, .sentinel], laidTests := true, laidLooks := .later }
def TickDecimalsMatchSpecCardSaid : Prop := Claim7.holds Tryz.pinned (.plain (OpenSpec.ofChange tickDecimalsMatchSpecSpec)) tickDecimalsMatchSpecCard

/-- THE SECOND FORM's CARD OF 'headendlaw1.TickDecimalsMatchSpec'. -/
def tickDecimalsMatchSpecUptoCard : Claim7 := { stood := { row := tickDecimalsMatchSpecUptoRow, standIns := [], harness := (true, "26ffacd4c5a8871459b4d4a1a0c0cd9eae402e0afa6482c7c3107a0471fd827c"), looks := true }, kinds := [], alts := [], laidByText := true, laidKinds := [.data, .data, .data, .sentinel, .sentinel], laidTests := true, laidLooks := .later }
def TickDecimalsMatchSpecUptoCardSaid : Prop := Claim7.holds Tryz.pinned (.plain (OpenSpec.upto tickDecimalsMatchSpecSpec)) tickDecimalsMatchSpecUptoCard
end Rows
end Go.Proofs.YtdfhpcghfmlfjaaGreatDoor
