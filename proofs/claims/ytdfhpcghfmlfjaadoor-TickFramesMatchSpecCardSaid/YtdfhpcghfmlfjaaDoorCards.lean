/-
  DERIVED. GIVEN WITH THE SEED: THE CARDS: each row of YtdfhpcghfmlfjaaDoorRows.lean that lists a variable, with what it lists TIED to the program's text (the seventh form; the later family's looks); each row that meets fmt, with fmt's text TOLD by the authors' own Lean function (tested against real Go, not proved from fmt's source: count such statements apart). THE CARD IS WHAT COUNTS. Prove the row's statement (the work); the ties are given (YtdfhpcghfmlfjaaDoorTie.lean); close each card by the builder's one call (the guide's Derived/Test/ToyasCard.lean, 'card_holds'). Laid BY PROGRAM, IN A SANDBOX (cutbox-door.mjs). By AI agents, Wed Nov 11 2026. No macro, syntax, notation, axiom, sorry.
-/
import Derived.Test.YtdfhpcghfmlfjaaDoorRows
import GoSem.ClaimSeven
namespace Go.Proofs.YtdfhpcghfmlfjaaDoor
namespace Rows

/-- THE TIED CARD OF 'headendlaw1.TickDatesComeBack'. -/
def tickDatesComeBackCard : Claim7 := { stood := { row := tickDatesComeBackRow, standIns := [], harness := (true, "34196f8bdd3dcdedca20c57aa18e17ee47bef08a005c81fbdf9c096c09cf1939"), looks := true }, kinds := [], alts := [], laidByText := true, laidKinds := [.data, .data, .data], laidTests := true, laidLooks := .later }
def TickDatesComeBackCardSaid : Prop := Claim7.holds Tryd.pinned (.plain (OpenSpec.ofChange tickDatesComeBackSpec)) tickDatesComeBackCard

/-- THE TIED CARD OF 'headendlaw1.TickDecimalsComeBack'. -/
def tickDecimalsComeBackCard : Claim7 := { stood := { row := tickDecimalsComeBackRow, standIns := [], harness := (true, "34196f8bdd3dcdedca20c57aa18e17ee47bef08a005c81fbdf9c096c09cf1939"), looks := true }, kinds := [], alts := [], laidByText := true, laidKinds := [.data, .data, .data], laidTests := true, laidLooks := .later }
def TickDecimalsComeBackCardSaid : Prop := Claim7.holds Tryd.pinned (.plain (OpenSpec.ofChange tickDecimalsComeBackSpec)) tickDecimalsComeBackCard

/-- THE TIED CARD OF 'headendlaw1.TickDatesMatchSpec'. -/
def tickDatesMatchSpecCard : Claim7 := { stood := { row := tickDatesMatchSpecRow, standIns := [], harness := (true, "34196f8bdd3dcdedca20c57aa18e17ee47bef08a005c81fbdf9c096c09cf1939"), looks := true }, kinds := [], alts := [], laidByText := true, laidKinds := [.data, .data, .data, .sentinel, .sentinel], laidTests := true, laidLooks := .later }
def TickDatesMatchSpecCardSaid : Prop := Claim7.holds Tryd.pinned (.plain (OpenSpec.ofChange tickDatesMatchSpecSpec)) tickDatesMatchSpecCard

/-- THE TIED CARD OF 'headendlaw1.TickFramesMatchSpec'. -/
def tickFramesMatchSpecCard : Claim7 := { stood := { row := tickFramesMatchSpecRow, standIns := [], harness := (true, "34196f8bdd3dcdedca20c57aa18e17ee47bef08a005c81fbdf9c096c09cf1939"), looks := true }, kinds := [], alts := [], laidByText := true, laidKinds := [.data, .data, .data, .sentinel, .sentinel], laidTests := true, laidLooks := .later }
def TickFramesMatchSpecCardSaid : Prop := Claim7.holds Tryd.pinned (.plain (OpenSpec.ofChange tickFramesMatchSpecSpec)) tickFramesMatchSpecCard

/-- THE SECOND FORM's CARD OF 'headendlaw1.TickDatesComeBack'. -/
def tickDatesComeBackUptoCard : Claim7 := { stood := { row := tickDatesComeBackUptoRow, standIns := [], harness := (true, "34196f8bdd3dcdedca20c57aa18e17ee47bef08a005c81fbdf9c096c09cf1939"), looks := true }, kinds := [], alts := [], laidByText := true, laidKinds := [.data, .data, .data], laidTests := true, laidLooks := .later }
def TickDatesComeBackUptoCardSaid : Prop := Claim7.holds Tryd.pinned (.plain (OpenSpec.upto tickDatesComeBackSpec)) tickDatesComeBackUptoCard

/-- THE SECOND FORM's CARD OF 'headendlaw1.TickDecimalsComeBack'. -/
def tickDecimalsComeBackUptoCard : Claim7 := { stood := { row := tickDecimalsComeBackUptoRow, standIns := [], harness := (true, "34196f8bdd3dcdedca20c57aa18e17ee47bef08a005c81fbdf9c096c09cf1939"), looks := true }, kinds := [], alts := [], laidByText := true, laidKinds := [.data, .data, .data], laidTests := true, laidLooks := .later }
def TickDecimalsComeBackUptoCardSaid : Prop := Claim7.holds Tryd.pinned (.plain (OpenSpec.upto tickDecimalsComeBackSpec)) tickDecimalsComeBackUptoCard

/-- THE SECOND FORM's CARD OF 'headendlaw1.TickDatesMatchSpec'. -/
def tickDatesMatchSpecUptoCard : Claim7 := { stood := { row := tickDatesMatchSpecUptoRow, standIns := [], harness := (true, "34196f8bdd3dcdedca20c57aa18e17ee47bef08a005c81fbdf9c096c09cf1939"), looks := true }, kinds := [], alts := [], laidByText := true, laidKinds := [.data, .data, .data, .sentinel, .sentinel], laidTests := true, laidLooks := .later }
def TickDatesMatchSpecUptoCardSaid : Prop := Claim7.holds Tryd.pinned (.plain (OpenSpec.upto tickDatesMatchSpecSpec)) tickDatesMatchSpecUptoCard

/-- THE SECOND FORM's CARD OF 'headendlaw1.TickFramesMatchSpec'. -/
def tickFramesMatchSpecUptoCard : Claim7 := { stood := { row := tickFramesMatchSpecUptoRow, standIns := [], harness := (true, "34196f8bdd3dcdedca20c57aa18e17ee47bef08a005c81fbdf9c096c09cf1939"), looks := true }, kinds := [], alts := [], laidByText := true, laidKinds := [.data, .data, .data, .sentinel, .sentinel], laidTests := true, laidLooks := .later }
def TickFramesMatchSpecUptoCardSaid : Prop := Claim7.holds Tryd.pinned (.plain (OpenSpec.upto tickFramesMatchSpecSpec)) tickFramesMatchSpecUptoCard
end Rows
end Go.Proofs.YtdfhpcghfmlfjaaDoor
