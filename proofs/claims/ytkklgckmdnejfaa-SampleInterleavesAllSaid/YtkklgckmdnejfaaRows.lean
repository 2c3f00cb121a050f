/-
  No cell of these rows narrows 'for every input' (looked for: loops, veiled, ifaces, maps, wideKeys, modest, calm, conditions, laid).
  DERIVED. THE GIVEN ROWS OF THIS SEAT. 12 by the template 'for every input the law returns true; each argument reads behind the call as it read before'; 0 by the template 'total and deterministic' (their statements: YtkklgckmdnejfaaTotals.lean).
  GIVEN WITH THE SEED: the statements are not yours to turn. If you find one false, say at which input.
  Laid BY PROGRAM, IN A SANDBOX (cutbox-rows.mjs): the forced cells as the released guide's own fill.sh prints them over the translation 77775f74b6fce63c… (all of the seat's roots in one cut). By AI agents, Wed Nov 11 2026. No macro, syntax, notation, axiom, sorry.
-/
import Derived.Test.YtkklgckmdnejfaaChecked
import GoSem.Claim
import GoSem.ClaimJoined
import GoSem.ClaimMapViews
import Derived.JoinedTies
import Derived.KernelRfl
namespace Go.Proofs.Ytkklgckmdnejfaa
/- THE CELL 'sum', in the pinned program and in every row, IS THE sha256 OF THE DUMP (.gsa) THAT YtkklgckmdnejfaaProg.lean LOADS. Nothing in Lean hashes anything: it is a label: what it is worth is what the hold of that sum in a sandbox is worth. -/
noncomputable def Try.pinned : Pinned := { name := "ytkklgckmdnejfaa", sum := "77775f74b6fce63cfc316ea9714aa4704414991ae8353f932e30ab45302339a2", checked := Try.checked }
namespace Rows
def none {H : Type} : Left H := { results := [], args := [] }

/-- 'headendlaw3.SampleInterleavesAll': WHATEVER THE INPUT: true; the input reads as it did. -/
def sampleInterleavesAllSpec : ChangeSpec := { name := "sampleInterleavesAll", fn := fun _ => fun
  | [d1, d2] => { results := [.lit (.bool true)], args := [d1, d2] }
  | _ => none }
def sampleInterleavesAllRow : OpenClaim := { program := "ytkklgckmdnejfaa", sum := "77775f74b6fce63cfc316ea9714aa4704414991ae8353f932e30ab45302339a2", func := "headend/headendlaw3.SampleInterleavesAll", spec := "sampleInterleavesAll", inPlace := ["math/bits.Sub64"], apart := false }
def SampleInterleavesAllSaid : Prop := sampleInterleavesAllRow.holds Try.pinned (OpenSpec.ofChange sampleInterleavesAllSpec)

/-- ITS FALSE NEIGHBOUR: 'it returns false'. Refute it at one input. -/
def sampleInterleavesAllWrong : ChangeSpec := { name := "sampleInterleavesAll", fn := fun _ => fun
  | [d1, d2] => { results := [.lit (.bool false)], args := [d1, d2] }
  | _ => none }
def SampleInterleavesAllWrongFalsely : Prop := sampleInterleavesAllRow.holds Try.pinned (OpenSpec.ofChange sampleInterleavesAllWrong)

/-- 'headendlaw3.SampleTightsMatchSpec': WHATEVER THE INPUT: true; the input reads as it did. -/
def sampleTightsMatchSpecSpec : ChangeSpec := { name := "sampleTightsMatchSpec", fn := fun _ => fun
  | [d1, d2, d3] => { results := [.lit (.bool true)], args := [d1, d2, d3] }
  | _ => none }
def sampleTightsMatchSpecRow : OpenClaim := { program := "ytkklgckmdnejfaa", sum := "77775f74b6fce63cfc316ea9714aa4704414991ae8353f932e30ab45302339a2", func := "headend/headendlaw3.SampleTightsMatchSpec", spec := "sampleTightsMatchSpec", unfollowed := true, recurses := true, apart := false }
def SampleTightsMatchSpecSaid : Prop := sampleTightsMatchSpecRow.holds Try.pinned (OpenSpec.ofChange sampleTightsMatchSpecSpec)

/-- ITS FALSE NEIGHBOUR: 'it returns false'. Refute it at one input. -/
def sampleTightsMatchSpecWrong : ChangeSpec := { name := "sampleTightsMatchSpec", fn := fun _ => fun
  | [d1, d2, d3] => { results := [.lit (.bool false)], args := [d1, d2, d3] }
  | _ => none }
def SampleTightsMatchSpecWrongFalsely : Prop := sampleTightsMatchSpecRow.holds Try.pinned (OpenSpec.ofChange sampleTightsMatchSpecWrong)

/-- 'headendlaw3.SampleTightsPresent': WHATEVER THE INPUT: true; the input reads as it did. -/
def sampleTightsPresentSpec : ChangeSpec := { name := "sampleTightsPresent", fn := fun _ => fun
  | [d1, d2, d3] => { results := [.lit (.bool true)], args := [d1, d2, d3] }
  | _ => none }
def sampleTightsPresentRow : OpenClaim := { program := "ytkklgckmdnejfaa", sum := "77775f74b6fce63cfc316ea9714aa4704414991ae8353f932e30ab45302339a2", func := "headend/headendlaw3.SampleTightsPresent", spec := "sampleTightsPresent", unfollowed := true, recurses := true, apart := false }
def SampleTightsPresentSaid : Prop := sampleTightsPresentRow.holds Try.pinned (OpenSpec.ofChange sampleTightsPresentSpec)

/-- ITS FALSE NEIGHBOUR: 'it returns false'. Refute it at one input. -/
def sampleTightsPresentWrong : ChangeSpec := { name := "sampleTightsPresent", fn := fun _ => fun
  | [d1, d2, d3] => { results := [.lit (.bool false)], args := [d1, d2, d3] }
  | _ => none }
def SampleTightsPresentWrongFalsely : Prop := sampleTightsPresentRow.holds Try.pinned (OpenSpec.ofChange sampleTightsPresentWrong)

/-- 'headendlaw3.SampleRatesAreLeast': WHATEVER THE INPUT: true; the input reads as it did. -/
def sampleRatesAreLeastSpec : ChangeSpec := { name := "sampleRatesAreLeast", fn := fun _ => fun
  | [d1, d2] => { results := [.lit (.bool true)], args := [d1, d2] }
  | _ => none }
def sampleRatesAreLeastRow : OpenClaim := { program := "ytkklgckmdnejfaa", sum := "77775f74b6fce63cfc316ea9714aa4704414991ae8353f932e30ab45302339a2", func := "headend/headendlaw3.SampleRatesAreLeast", spec := "sampleRatesAreLeast", named := ["math/bits.divideError", "math/bits.overflowError"], apart := false }
def SampleRatesAreLeastSaid : Prop := sampleRatesAreLeastRow.holds Try.pinned (OpenSpec.ofChange sampleRatesAreLeastSpec)

/-- ITS FALSE NEIGHBOUR: 'it returns false'. Refute it at one input. -/
def sampleRatesAreLeastWrong : ChangeSpec := { name := "sampleRatesAreLeast", fn := fun _ => fun
  | [d1, d2] => { results := [.lit (.bool false)], args := [d1, d2] }
  | _ => none }
def SampleRatesAreLeastWrongFalsely : Prop := sampleRatesAreLeastRow.holds Try.pinned (OpenSpec.ofChange sampleRatesAreLeastWrong)

/-- 'headendlaw3.SampleReordersMatchSpec': WHATEVER THE INPUT: true; the input reads as it did. -/
def sampleReordersMatchSpecSpec : ChangeSpec := { name := "sampleReordersMatchSpec", fn := fun _ => fun
  | [d1, d2, d3, d4] => { results := [.lit (.bool true)], args := [d1, d2, d3, d4] }
  | _ => none }
def sampleReordersMatchSpecRow : OpenClaim := { program := "ytkklgckmdnejfaa", sum := "77775f74b6fce63cfc316ea9714aa4704414991ae8353f932e30ab45302339a2", func := "headend/headendlaw3.SampleReordersMatchSpec", spec := "sampleReordersMatchSpec", unfollowed := true, recurses := true, apart := false }
def SampleReordersMatchSpecSaid : Prop := sampleReordersMatchSpecRow.holds Try.pinned (OpenSpec.ofChange sampleReordersMatchSpecSpec)

/-- ITS FALSE NEIGHBOUR: 'it returns false'. Refute it at one input. -/
def sampleReordersMatchSpecWrong : ChangeSpec := { name := "sampleReordersMatchSpec", fn := fun _ => fun
  | [d1, d2, d3, d4] => { results := [.lit (.bool false)], args := [d1, d2, d3, d4] }
  | _ => none }
def SampleReordersMatchSpecWrongFalsely : Prop := sampleReordersMatchSpecRow.holds Try.pinned (OpenSpec.ofChange sampleReordersMatchSpecWrong)

/-- 'headendlaw3.SampleReordersPresent': WHATEVER THE INPUT: true; the input reads as it did. -/
def sampleReordersPresentSpec : ChangeSpec := { name := "sampleReordersPresent", fn := fun _ => fun
  | [d1, d2, d3, d4] => { results := [.lit (.bool true)], args := [d1, d2, d3, d4] }
  | _ => none }
def sampleReordersPresentRow : OpenClaim := { program := "ytkklgckmdnejfaa", sum := "77775f74b6fce63cfc316ea9714aa4704414991ae8353f932e30ab45302339a2", func := "headend/headendlaw3.SampleReordersPresent", spec := "sampleReordersPresent", unfollowed := true, recurses := true, apart := false }
def SampleReordersPresentSaid : Prop := sampleReordersPresentRow.holds Try.pinned (OpenSpec.ofChange sampleReordersPresentSpec)

/-- ITS FALSE NEIGHBOUR: 'it returns false'. Refute it at one input. -/
def sampleReordersPresentWrong : ChangeSpec := { name := "sampleReordersPresent", fn := fun _ => fun
  | [d1, d2, d3, d4] => { results := [.lit (.bool false)], args := [d1, d2, d3, d4] }
  | _ => none }
def SampleReordersPresentWrongFalsely : Prop := sampleReordersPresentRow.holds Try.pinned (OpenSpec.ofChange sampleReordersPresentWrong)

/-- 'headendlaw3.SampleNeededIsEnough': WHATEVER THE INPUT: true; the input reads as it did. -/
def sampleNeededIsEnoughSpec : ChangeSpec := { name := "sampleNeededIsEnough", fn := fun _ => fun
  | [d1, d2] => { results := [.lit (.bool true)], args := [d1, d2] }
  | _ => none }
def sampleNeededIsEnoughRow : OpenClaim := { program := "ytkklgckmdnejfaa", sum := "77775f74b6fce63cfc316ea9714aa4704414991ae8353f932e30ab45302339a2", func := "headend/headendlaw3.SampleNeededIsEnough", spec := "sampleNeededIsEnough", recurses := true, apart := false }
def SampleNeededIsEnoughSaid : Prop := sampleNeededIsEnoughRow.holds Try.pinned (OpenSpec.ofChange sampleNeededIsEnoughSpec)

/-- ITS FALSE NEIGHBOUR: 'it returns false'. Refute it at one input. -/
def sampleNeededIsEnoughWrong : ChangeSpec := { name := "sampleNeededIsEnough", fn := fun _ => fun
  | [d1, d2] => { results := [.lit (.bool false)], args := [d1, d2] }
  | _ => none }
def SampleNeededIsEnoughWrongFalsely : Prop := sampleNeededIsEnoughRow.holds Try.pinned (OpenSpec.ofChange sampleNeededIsEnoughWrong)

/-- 'headendlaw3.SampleNeededMatchesSpec': WHATEVER THE INPUT: true; the input reads as it did. -/
def sampleNeededMatchesSpecSpec : ChangeSpec := { name := "sampleNeededMatchesSpec", fn := fun _ => fun
  | [d1, d2, d3] => { results := [.lit (.bool true)], args := [d1, d2, d3] }
  | _ => none }
def sampleNeededMatchesSpecRow : OpenClaim := { program := "ytkklgckmdnejfaa", sum := "77775f74b6fce63cfc316ea9714aa4704414991ae8353f932e30ab45302339a2", func := "headend/headendlaw3.SampleNeededMatchesSpec", spec := "sampleNeededMatchesSpec", recurses := true, apart := false }
def SampleNeededMatchesSpecSaid : Prop := sampleNeededMatchesSpecRow.holds Try.pinned (OpenSpec.ofChange sampleNeededMatchesSpecSpec)

/-- ITS FALSE NEIGHBOUR: 'it returns false'. Refute it at one input. -/
def sampleNeededMatchesSpecWrong : ChangeSpec := { name := "sampleNeededMatchesSpec", fn := fun _ => fun
  | [d1, d2, d3] => { results := [.lit (.bool false)], args := [d1, d2, d3] }
  | _ => none }
def SampleNeededMatchesSpecWrongFalsely : Prop := sampleNeededMatchesSpecRow.holds Try.pinned (OpenSpec.ofChange sampleNeededMatchesSpecWrong)

/-- 'headendlaw3.SampleGroupsMatchSpec': WHATEVER THE INPUT: true; the input reads as it did. -/
def sampleGroupsMatchSpecSpec : ChangeSpec := { name := "sampleGroupsMatchSpec", fn := fun _ => fun
  | [d] => { results := [.lit (.bool true)], args := [d] }
  | _ => none }
def sampleGroupsMatchSpecRow : OpenClaim := { program := "ytkklgckmdnejfaa", sum := "77775f74b6fce63cfc316ea9714aa4704414991ae8353f932e30ab45302339a2", func := "headend/headendlaw3.SampleGroupsMatchSpec", spec := "sampleGroupsMatchSpec", recurses := true, apart := false }
def SampleGroupsMatchSpecSaid : Prop := sampleGroupsMatchSpecRow.holds Try.pinned (OpenSpec.ofChange sampleGroupsMatchSpecSpec)

/-- ITS FALSE NEIGHBOUR: 'it returns false'. Refute it at one input. -/
def sampleGroupsMatchSpecWrong : ChangeSpec := { name := "sampleGroupsMatchSpec", fn := fun _ => fun
  | [d] => { results := [.lit (.bool false)], args := [d] }
  | _ => none }
def SampleGroupsMatchSpecWrongFalsely : Prop := sampleGroupsMatchSpecRow.holds Try.pinned (OpenSpec.ofChange sampleGroupsMatchSpecWrong)

/-- 'headendlaw3.SampleGroupsAreAll': WHATEVER THE INPUT: true; the input reads as it did. -/
def sampleGroupsAreAllSpec : ChangeSpec := { name := "sampleGroupsAreAll", fn := fun _ => fun
  | [d] => { results := [.lit (.bool true)], args := [d] }
  | _ => none }
def sampleGroupsAreAllRow : OpenClaim := { program := "ytkklgckmdnejfaa", sum := "77775f74b6fce63cfc316ea9714aa4704414991ae8353f932e30ab45302339a2", func := "headend/headendlaw3.SampleGroupsAreAll", spec := "sampleGroupsAreAll", recurses := true, apart := false }
def SampleGroupsAreAllSaid : Prop := sampleGroupsAreAllRow.holds Try.pinned (OpenSpec.ofChange sampleGroupsAreAllSpec)

/-- ITS FALSE NEIGHBOUR: 'it returns false'. Refute it at one input. -/
def sampleGroupsAreAllWrong : ChangeSpec := { name := "sampleGroupsAreAll", fn := fun _ => fun
  | [d] => { results := [.lit (.bool false)], args := [d] }
  | _ => none }
def SampleGroupsAreAllWrongFalsely : Prop := sampleGroupsAreAllRow.holds Try.pinned (OpenSpec.ofChange sampleGroupsAreAllWrong)

/-- 'headendlaw3.SampleJoinsFollow': WHATEVER THE INPUT: true; the input reads as it did. -/
def sampleJoinsFollowSpec : ChangeSpec := { name := "sampleJoinsFollow", fn := fun _ => fun
  | [d1, d2] => { results := [.lit (.bool true)], args := [d1, d2] }
  | _ => none }
def sampleJoinsFollowRow : OpenClaim := { program := "ytkklgckmdnejfaa", sum := "77775f74b6fce63cfc316ea9714aa4704414991ae8353f932e30ab45302339a2", func := "headend/headendlaw3.SampleJoinsFollow", spec := "sampleJoinsFollow", recurses := true, apart := false }
def SampleJoinsFollowSaid : Prop := sampleJoinsFollowRow.holds Try.pinned (OpenSpec.ofChange sampleJoinsFollowSpec)

/-- ITS FALSE NEIGHBOUR: 'it returns false'. Refute it at one input. -/
def sampleJoinsFollowWrong : ChangeSpec := { name := "sampleJoinsFollow", fn := fun _ => fun
  | [d1, d2] => { results := [.lit (.bool false)], args := [d1, d2] }
  | _ => none }
def SampleJoinsFollowWrongFalsely : Prop := sampleJoinsFollowRow.holds Try.pinned (OpenSpec.ofChange sampleJoinsFollowWrong)

/-- 'headendlaw3.SampleMovesMatchSpec': WHATEVER THE INPUT: true; the input reads as it did. -/
def sampleMovesMatchSpecSpec : ChangeSpec := { name := "sampleMovesMatchSpec", fn := fun _ => fun
  | [d1, d2, d3] => { results := [.lit (.bool true)], args := [d1, d2, d3] }
  | _ => none }
def sampleMovesMatchSpecRow : OpenClaim := { program := "ytkklgckmdnejfaa", sum := "77775f74b6fce63cfc316ea9714aa4704414991ae8353f932e30ab45302339a2", func := "headend/headendlaw3.SampleMovesMatchSpec", spec := "sampleMovesMatchSpec", recurses := true, apart := false }
def SampleMovesMatchSpecSaid : Prop := sampleMovesMatchSpecRow.holds Try.pinned (OpenSpec.ofChange sampleMovesMatchSpecSpec)

/-- ITS FALSE NEIGHBOUR: 'it returns false'. Refute it at one input. -/
def sampleMovesMatchSpecWrong : ChangeSpec := { name := "sampleMovesMatchSpec", fn := fun _ => fun
  | [d1, d2, d3] => { results := [.lit (.bool false)], args := [d1, d2, d3] }
  | _ => none }
def SampleMovesMatchSpecWrongFalsely : Prop := sampleMovesMatchSpecRow.holds Try.pinned (OpenSpec.ofChange sampleMovesMatchSpecWrong)

/- THE SECOND FORM. 'bulk': how many values and letters a reading holds, each counted each time it is reached (what is shared counts as often as it is met; a slice's spare places count too). A statement '..UptoSaid' is the law's where the arguments, and the package variables that the reading takes, are together of bulk at most 1048576: NARROWER than '..Said'. Prove '..Said' where nothing that the law and all that it calls make is longer than what came in: it says more and counts as full. Else prove '..UptoSaid'. A law counts once. -/
mutual
def uptoBulk {H : Type} : DataW H → Nat
  | .lit (.string bytes) => bytes.length + 1
  | .lit _ => 1
  | .nil => 1
  | .ptr d => uptoBulk d + 1
  | .slice elems spare => uptoBulkAll elems + uptoBulkAll spare + 1
  | .agg parts => uptoBulkAll parts + 1
  | .iface _ d => uptoBulk d + 1
  | .map entries => uptoBulkEntries entries + 1
  | .held _ => 1
def uptoBulkAll {H : Type} : List (DataW H) → Nat
  | [] => 0
  | d :: r => uptoBulk d + uptoBulkAll r
def uptoBulkEntries {H : Type} : List (Lit × DataW H) → Nat
  | [] => 0
  | x :: r => uptoBulkEntry x + uptoBulkEntries r
def uptoBulkEntry {H : Type} : Lit × DataW H → Nat
  | (.string bytes, d) => bytes.length + uptoBulk d + 1
  | (_, d) => uptoBulk d + 1
 end
def uptoSmall : (H : Type) → List (DataW H) → Bool := fun _ ds => decide (uptoBulkAll ds ≤ 1048576)
def OpenSpec.upto (s : _root_.Go.ChangeSpec) : _root_.Go.OpenSpec := { _root_.Go.OpenSpec.ofChange s with cond := some uptoSmall }

/-- 'headendlaw3.SampleInterleavesAll', WHERE WHAT IT READS IS OF BULK AT MOST 1048576: true; the input reads as it did. -/
def sampleInterleavesAllUptoRow : OpenClaim := { program := "ytkklgckmdnejfaa", sum := "77775f74b6fce63cfc316ea9714aa4704414991ae8353f932e30ab45302339a2", func := "headend/headendlaw3.SampleInterleavesAll", spec := "sampleInterleavesAll", inPlace := ["math/bits.Sub64"], apart := false, narrowed := true }
def SampleInterleavesAllUptoSaid : Prop := sampleInterleavesAllUptoRow.holds Try.pinned (OpenSpec.upto sampleInterleavesAllSpec)

/-- 'headendlaw3.SampleTightsMatchSpec', WHERE WHAT IT READS IS OF BULK AT MOST 1048576: true; the input reads as it did. -/
def sampleTightsMatchSpecUptoRow : OpenClaim := { program := "ytkklgckmdnejfaa", sum := "77775f74b6fce63cfc316ea9714aa4704414991ae8353f932e30ab45302339a2", func := "headend/headendlaw3.SampleTightsMatchSpec", spec := "sampleTightsMatchSpec", unfollowed := true, recurses := true, apart := false, narrowed := true }
def SampleTightsMatchSpecUptoSaid : Prop := sampleTightsMatchSpecUptoRow.holds Try.pinned (OpenSpec.upto sampleTightsMatchSpecSpec)

/-- 'headendlaw3.SampleTightsPresent', WHERE WHAT IT READS IS OF BULK AT MOST 1048576: true; the input reads as it did. -/
def sampleTightsPresentUptoRow : OpenClaim := { program := "ytkklgckmdnejfaa", sum := "77775f74b6fce63cfc316ea9714aa4704414991ae8353f932e30ab45302339a2", func := "headend/headendlaw3.SampleTightsPresent", spec := "sampleTightsPresent", unfollowed := true, recurses := true, apart := false, narrowed := true }
def SampleTightsPresentUptoSaid : Prop := sampleTightsPresentUptoRow.holds Try.pinned (OpenSpec.upto sampleTightsPresentSpec)

/-- 'headendlaw3.SampleRatesAreLeast', WHERE WHAT IT READS IS OF BULK AT MOST 1048576: true; the input reads as it did. -/
def sampleRatesAreLeastUptoRow : OpenClaim := { program := "ytkklgckmdnejfaa", sum := "77775f74b6fce63cfc316ea9714aa4704414991ae8353f932e30ab45302339a2", func := "headend/headendlaw3.SampleRatesAreLeast", spec := "sampleRatesAreLeast", named := ["math/bits.divideError", "math/bits.overflowError"], apart := false, narrowed := true }
def SampleRatesAreLeastUptoSaid : Prop := sampleRatesAreLeastUptoRow.holds Try.pinned (OpenSpec.upto sampleRatesAreLeastSpec)

/-- 'headendlaw3.SampleReordersMatchSpec', WHERE WHAT IT READS IS OF BULK AT MOST 1048576: true; the input reads as it did. -/
def sampleReordersMatchSpecUptoRow : OpenClaim := { program := "ytkklgckmdnejfaa", sum := "77775f74b6fce63cfc316ea9714aa4704414991ae8353f932e30ab45302339a2", func := "headend/headendlaw3.SampleReordersMatchSpec", spec := "sampleReordersMatchSpec", unfollowed := true, recurses := true, apart := false, narrowed := true }
def SampleReordersMatchSpecUptoSaid : Prop := sampleReordersMatchSpecUptoRow.holds Try.pinned (OpenSpec.upto sampleReordersMatchSpecSpec)

/-- 'headendlaw3.SampleReordersPresent', WHERE WHAT IT READS IS OF BULK AT MOST 1048576: true; the input reads as it did. -/
def sampleReordersPresentUptoRow : OpenClaim := { program := "ytkklgckmdnejfaa", sum := "77775f74b6fce63cfc316ea9714aa4704414991ae8353f932e30ab45302339a2", func := "headend/headendlaw3.SampleReordersPresent", spec := "sampleReordersPresent", unfollowed := true, recurses := true, apart := false, narrowed := true }
def SampleReordersPresentUptoSaid : Prop := sampleReordersPresentUptoRow.holds Try.pinned (OpenSpec.upto sampleReordersPresentSpec)

/-- 'headendlaw3.SampleNeededIsEnough', WHERE WHAT IT READS IS OF BULK AT MOST 1048576: true; the input reads as it did. -/
def sampleNeededIsEnoughUptoRow : OpenClaim := { program := "ytkklgckmdnejfaa", sum := "77775f74b6fce63cfc316ea9714aa4704414991ae8353f932e30ab45302339a2", func := "headend/headendlaw3.SampleNeededIsEnough", spec := "sampleNeededIsEnough", recurses := true, apart := false, narrowed := true }
def SampleNeededIsEnoughUptoSaid : Prop := sampleNeededIsEnoughUptoRow.holds Try.pinned (OpenSpec.upto sampleNeededIsEnoughSpec)

/-- 'headendlaw3.SampleNeededMatchesSpec', WHERE WHAT IT READS IS OF BULK AT MOST 1048576: true; the input reads as it did. -/
def sampleNeededMatchesSpecUptoRow : OpenClaim := { program := "ytkklgckmdnejfaa", sum := "77775f74b6fce63cfc316ea9714aa4704414991ae8353f932e30ab45302339a2", func := "headend/headendlaw3.SampleNeededMatchesSpec", spec := "sampleNeededMatchesSpec", recurses := true, apart := false, narrowed := true }
def SampleNeededMatchesSpecUptoSaid : Prop := sampleNeededMatchesSpecUptoRow.holds Try.pinned (OpenSpec.upto sampleNeededMatchesSpecSpec)

/-- 'headendlaw3.SampleGroupsMatchSpec', WHERE WHAT IT READS IS OF BULK AT MOST 1048576: true; the input reads as it did. -/
def sampleGroupsMatchSpecUptoRow : OpenClaim := { program := "ytkklgckmdnejfaa", sum := "77775f74b6fce63cfc316ea9714aa4704414991ae8353f932e30ab45302339a2", func := "headend/headendlaw3.SampleGroupsMatchSpec", spec := "sampleGroupsMatchSpec", recurses := true, apart := false, narrowed := true }
def SampleGroupsMatchSpecUptoSaid : Prop := sampleGroupsMatchSpecUptoRow.holds Try.pinned (OpenSpec.upto sampleGroupsMatchSpecSpec)

/-- 'headendlaw3.SampleGroupsAreAll', WHERE WHAT IT READS IS OF BULK AT MOST 1048576: true; the input reads as it did. -/
def sampleGroupsAreAllUptoRow : OpenClaim := { program := "ytkklgckmdnejfaa", sum := "77775f74b6fce63cfc316ea9714aa4704414991ae8353f932e30ab45302339a2", func := "headend/headendlaw3.SampleGroupsAreAll", spec := "sampleGroupsAreAll", recurses := true, apart := false, narrowed := true }
def SampleGroupsAreAllUptoSaid : Prop := sampleGroupsAreAllUptoRow.holds Try.pinned (OpenSpec.upto sampleGroupsAreAllSpec)

/-- 'headendlaw3.SampleJoinsFollow', WHERE WHAT IT READS IS OF BULK AT MOST 1048576: true; the input reads as it did. -/
def sampleJoinsFollowUptoRow : OpenClaim := { program := "ytkklgckmdnejfaa", sum := "77775f74b6fce63cfc316ea9714aa4704414991ae8353f932e30ab45302339a2", func := "headend/headendlaw3.SampleJoinsFollow", spec := "sampleJoinsFollow", recurses := true, apart := false, narrowed := true }
def SampleJoinsFollowUptoSaid : Prop := sampleJoinsFollowUptoRow.holds Try.pinned (OpenSpec.upto sampleJoinsFollowSpec)

/-- 'headendlaw3.SampleMovesMatchSpec', WHERE WHAT IT READS IS OF BULK AT MOST 1048576: true; the input reads as it did. -/
def sampleMovesMatchSpecUptoRow : OpenClaim := { program := "ytkklgckmdnejfaa", sum := "77775f74b6fce63cfc316ea9714aa4704414991ae8353f932e30ab45302339a2", func := "headend/headendlaw3.SampleMovesMatchSpec", spec := "sampleMovesMatchSpec", recurses := true, apart := false, narrowed := true }
def SampleMovesMatchSpecUptoSaid : Prop := sampleMovesMatchSpecUptoRow.holds Try.pinned (OpenSpec.upto sampleMovesMatchSpecSpec)

end Rows
end Go.Proofs.Ytkklgckmdnejfaa
