/-
  DERIVED. GIVEN WITH THE SEED: THE CARDS: each row of YtjeemcpdmiajmaaDoorRows.lean that lists a variable, with what it lists TIED to the program's text (the seventh form; the later family's looks); each row that meets fmt, with fmt's text TOLD by the authors' own Lean function (tested against real Go, not proved from fmt's source: count such statements apart). THE CARD IS WHAT COUNTS. Prove the row's statement (the work); the ties are given (YtjeemcpdmiajmaaDoorTie.lean); close each card by the builder's one call (the guide's Derived/Test/ToyasCard.lean, 'card_holds'). Laid BY PROGRAM, IN A SANDBOX (cutbox-door.mjs). By AI agents, Wed Nov 11 2026. No macro, syntax, notation, axiom, sorry.
-/
import Derived.Test.YtjeemcpdmiajmaaDoorRows
import GoSem.ClaimSeven
namespace Go.Proofs.YtjeemcpdmiajmaaDoor
namespace Rows

/-- THE TIED CARD OF 'headendlaw4.CutIndexesMatchSpec'. -/
def cutIndexesMatchSpecCard : Claim7 := { stood := { row := cutIndexesMatchSpecRow, standIns := [], harness := (true, "881864e5cd12b15dfe89351209ccb6aa453c3ac00fa5a9e5479f58f216929b0e"), looks := true }, kinds := [], alts := [], laidByText := true, laidKinds := [.data, .data, .data, .sentinel, .sentinel], laidTests := true, laidLooks := .later }
def CutIndexesMatchSpecCardSaid : Prop := Claim7.holds Tryd.pinned (.plain (OpenSpec.ofChange cutIndexesMatchSpecSpec)) cutIndexesMatchSpecCard

/-- THE SECOND FORM's CARD OF 'headendlaw4.CutIndexesMatchSpec'. -/
def cutIndexesMatchSpecUptoCard : Claim7 := { stood := { row := cutIndexesMatchSpecUptoRow, standIns := [], harness := (true, "881864e5cd12b15dfe89351209ccb6aa453c3ac00fa5a9e5479f58f216929b0e"), looks := true }, kinds := [], alts := [], laidByText := true, laidKinds := [.data, .data, .data, .sentinel, .sentinel], laidTests := true, laidLooks := .later }
def CutIndexesMatchSpecUptoCardSaid : Prop := Claim7.holds Tryd.pinned (.plain (OpenSpec.upto cutIndexesMatchSpecSpec)) cutIndexesMatchSpecUptoCard
end Rows
end Go.Proofs.YtjeemcpdmiajmaaDoor
