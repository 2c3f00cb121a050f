/-
  DERIVED. GIVEN WITH THE SEED: THE CARDS: each row of YtjeemcpdmiajmaaGreatDoorRows.lean that lists a variable, with what it lists TIED to the program's text (the seventh form; the later family's looks); each row that meets fmt, with fmt's text TOLD by the authors' own Lean function (tested against real Go, not proved from fmt's source: count such statements apart). THE CARD IS WHAT COUNTS. Prove the row's statement (the work); the ties are given (YtjeemcpdmiajmaaGreatDoorTie.lean); close each card by the builder's one call (the guide's Derived/Test/ToyasCard.lean, 'card_holds'). Laid BY PROGRAM, IN A SANDBOX (cutbox-door.mjs). By AI agents, Wed Nov 11 2026. No macro, syntax, notation, axiom, sorry.
-/
import Derived.Test.YtjeemcpdmiajmaaGreatDoorRows
import GoSem.ClaimSeven
namespace Go.Proofs.YtjeemcpdmiajmaaGreatDoor
namespace Rows

/-- THE TIED CARD OF 'headendlaw4.CutPlacesMatchSpec'. -/
def cutPlacesMatchSpecCard : Claim7 := { stood := { row := cutPlacesMatchSpecRow, standIns := [], harness := (true, "41f9c870319f0a082ccc2fe2a94ed4b1facca277491494baf94c4cbca8f3d7b0"), looks := true }, kinds := [], alts := [], laidByText := true, laidKinds := [.data, .data, .data, .sentinel, .sentinel], laidTests := true, laidLooks := .later }
def CutPlacesMatchSpecCardSaid : Prop := Claim7.holds Tryz.pinned (.plain (OpenSpec.ofChange cutPlacesMatchSpecSpec)) cutPlacesMatchSpecCard

/-- THE SECOND FORM's CARD OF 'headendlaw4.CutPlacesMatchSpec'. -/
def cutPlacesMatchSpecUptoCard : Claim7 := { stood := { row := cutPlacesMatchSpecUptoRow, standIns := [], harness := (true, "41f9c870319f0a082ccc2fe2a94ed4b1facca277491494baf94c4cbca8f3d7b0"), looks := true }, kinds := [], alts := [], laidByText := true, laidKinds := [.data, .data, .data, .sentinel, .sentinel], laidTests := true, laidLooks := .later }
def CutPlacesMatchSpecUptoCardSaid : Prop := Claim7.holds Tryz.pinned (.plain (OpenSpec.upto cutPlacesMatchSpecSpec)) cutPlacesMatchSpecUptoCard
end Rows
end Go.Proofs.YtjeemcpdmiajmaaGreatDoor
