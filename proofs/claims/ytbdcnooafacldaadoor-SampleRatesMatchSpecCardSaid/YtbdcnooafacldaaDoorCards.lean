/-
  DERIVED. GIVEN WITH THE SEED: THE CARDS: each row of YtbdcnooafacldaaDoorRows.lean that lists a variable, with what it lists TIED to the program's text (the seventh form; the later family's looks); each row that meets fmt, with fmt's text TOLD by the authors' own Lean function (tested against real Go, not proved from fmt's source: count such statements apart). THE CARD IS WHAT COUNTS. Prove the row's statement (the work); the ties are given (YtbdcnooafacldaaDoorTie.lean); close each card by the builder's one call (the guide's Derived/Test/ToyasCard.lean, 'card_holds'). Laid BY PROGRAM, IN A SANDBOX (cutbox-door.mjs). By AI agents, Wed Nov 11 2026. No macro, syntax, notation, axiom, sorry.
-/
import Derived.Test.YtbdcnooafacldaaDoorRows
import GoSem.ClaimSeven
namespace Go.Proofs.YtbdcnooafacldaaDoor
namespace Rows

/-- THE TIED CARD OF 'headendlaw3.SampleInterleavesMatchSpec'. -/
def sampleInterleavesMatchSpecCard : Claim7 := { stood := { row := sampleInterleavesMatchSpecRow, standIns := [], harness := (true, "6d026b21510049021608216a4a852aacd40e43dff67dd665e815114617fa0dab"), looks := true }, kinds := [], alts := [], laidByText := true, laidKinds := [.data, .data, .data, .sentinel, .sentinel], laidTests := true, laidLooks := .later }
def SampleInterleavesMatchSpecCardSaid : Prop := Claim7.holds Tryd.pinned (.plain (OpenSpec.ofChange sampleInterleavesMatchSpecSpec)) sampleInterleavesMatchSpecCard

/-- THE TIED CARD OF 'headendlaw3.SampleRatesMatchSpec'. -/
def sampleRatesMatchSpecCard : Claim7 := { stood := { row := sampleRatesMatchSpecRow, standIns := [], harness := (true, "6d026b21510049021608216a4a852aacd40e43dff67dd665e815114617fa0dab"), looks := true }, kinds := [], alts := [], laidByText := true, laidKinds := [.data, .data, .data, .sentinel, .sentinel], laidTests := true, laidLooks := .later }
def SampleRatesMatchSpecCardSaid : Prop := Claim7.holds Tryd.pinned (.plain (OpenSpec.ofChange sampleRatesMatchSpecSpec)) sampleRatesMatchSpecCard

/-- THE SECOND FORM's CARD OF 'headendlaw3.SampleInterleavesMatchSpec'. -/
def sampleInterleavesMatchSpecUptoCard : Claim7 := { stood := { row := sampleInterleavesMatchSpecUptoRow, standIns := [], harness := (true, "6d026b21510049021608216a4a852aacd40e43dff67dd665e815114617fa0dab"), looks := true }, kinds := [], alts := [], laidByText := true, laidKinds := [.data, .data, .data, .sentinel, .sentinel], laidTests := true, laidLooks := .later }
def SampleInterleavesMatchSpecUptoCardSaid : Prop := Claim7.holds Tryd.pinned (.plain (OpenSpec.upto sampleInterleavesMatchSpecSpec)) sampleInterleavesMatchSpecUptoCard

/-- THE SECOND FORM's CARD OF 'headendlaw3.SampleRatesMatchSpec'. -/
def sampleRatesMatchSpecUptoCard : Claim7 := { stood := { row := sampleRatesMatchSpecUptoRow, standIns := [], harness := (true, "6d026b21510049021608216a4a852aacd40e43dff67dd665e815114617fa0dab"), looks := true }, kinds := [], alts := [], laidByText := true, laidKinds := [.data, .data, .data, .sentinel, .sentinel], laidTests := true, laidLooks := .later }
def SampleRatesMatchSpecUptoCardSaid : Prop := Claim7.holds Tryd.pinned (.plain (OpenSpec.upto sampleRatesMatchSpecSpec)) sampleRatesMatchSpecUptoCard
end Rows
end Go.Proofs.YtbdcnooafacldaaDoor
