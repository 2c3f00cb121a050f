/-
  No cell of these rows narrows 'for every input' (looked for: loops, veiled, ifaces, maps, wideKeys, modest, calm, conditions, laid).
  DERIVED. THE GIVEN ROWS OF THIS SEAT. 10 by the template 'for every input the law returns true; each argument reads behind the call as it read before'; 0 by the template 'total and deterministic' (their statements: YtlpbnpmmndcleaaTotals.lean).
  GIVEN WITH THE SEED: the statements are not yours to turn. If you find one false, say at which input.
  Laid BY PROGRAM, IN A SANDBOX (cutbox-rows.mjs): the forced cells as the released guide's own fill.sh prints them over the translation e7367c9aa451fc1a… (all of the seat's roots in one cut). By AI agents, Wed Nov 11 2026. No macro, syntax, notation, axiom, sorry.
-/
import Derived.Test.YtlpbnpmmndcleaaChecked
import GoSem.Claim
import GoSem.ClaimJoined
import GoSem.ClaimMapViews
import Derived.JoinedTies
import Derived.KernelRfl
namespace Go.Proofs.Ytlpbnpmmndcleaa
/- THE CELL 'sum', in the pinned program and in every row, IS THE sha256 OF THE DUMP (.gsa) THAT YtlpbnpmmndcleaaProg.lean LOADS. Nothing in Lean hashes anything: it is a label: what it is worth is what the hold of that sum in a sandbox is worth. -/
noncomputable def Try.pinned : Pinned := { name := "ytlpbnpmmndcleaa", sum := "e7367c9aa451fc1afb2687de0d55cbdc31af93fb57106c8ada819444515159ba", checked := Try.checked }
namespace Rows
def none {H : Type} : Left H := { results := [], args := [] }

/-- 'headendlaw1.TickConvertsAreClose': WHATEVER THE INPUT: true; the input reads as it did. -/
def tickConvertsAreCloseSpec : ChangeSpec := { name := "tickConvertsAreClose", fn := fun _ => fun
  | [d1, d2, d3] => { results := [.lit (.bool true)], args := [d1, d2, d3] }
  | _ => none }
def tickConvertsAreCloseRow : OpenClaim := { program := "ytlpbnpmmndcleaa", sum := "e7367c9aa451fc1afb2687de0d55cbdc31af93fb57106c8ada819444515159ba", func := "headend/headendlaw1.TickConvertsAreClose", spec := "tickConvertsAreClose", named := ["math/bits.divideError", "math/bits.overflowError"], apart := false }
def TickConvertsAreCloseSaid : Prop := tickConvertsAreCloseRow.holds Try.pinned (OpenSpec.ofChange tickConvertsAreCloseSpec)

/-- ITS FALSE NEIGHBOUR: 'it returns false'. Refute it at one input. -/
def tickConvertsAreCloseWrong : ChangeSpec := { name := "tickConvertsAreClose", fn := fun _ => fun
  | [d1, d2, d3] => { results := [.lit (.bool false)], args := [d1, d2, d3] }
  | _ => none }
def TickConvertsAreCloseWrongFalsely : Prop := tickConvertsAreCloseRow.holds Try.pinned (OpenSpec.ofChange tickConvertsAreCloseWrong)

/-- 'headendlaw1.TickFramesAreFound': WHATEVER THE INPUT: true; the input reads as it did. -/
def tickFramesAreFoundSpec : ChangeSpec := { name := "tickFramesAreFound", fn := fun _ => fun
  | [d1, d2, d3, d4, d5] => { results := [.lit (.bool true)], args := [d1, d2, d3, d4, d5] }
  | _ => none }
def tickFramesAreFoundRow : OpenClaim := { program := "ytlpbnpmmndcleaa", sum := "e7367c9aa451fc1afb2687de0d55cbdc31af93fb57106c8ada819444515159ba", func := "headend/headendlaw1.TickFramesAreFound", spec := "tickFramesAreFound", named := ["math/bits.divideError", "math/bits.overflowError"], apart := false }
def TickFramesAreFoundSaid : Prop := tickFramesAreFoundRow.holds Try.pinned (OpenSpec.ofChange tickFramesAreFoundSpec)

/-- ITS FALSE NEIGHBOUR: 'it returns false'. Refute it at one input. -/
def tickFramesAreFoundWrong : ChangeSpec := { name := "tickFramesAreFound", fn := fun _ => fun
  | [d1, d2, d3, d4, d5] => { results := [.lit (.bool false)], args := [d1, d2, d3, d4, d5] }
  | _ => none }
def TickFramesAreFoundWrongFalsely : Prop := tickFramesAreFoundRow.holds Try.pinned (OpenSpec.ofChange tickFramesAreFoundWrong)

/-- 'headendlaw1.TickRegularsMatchSpec': WHATEVER THE INPUT: true; the input reads as it did. -/
def tickRegularsMatchSpecSpec : ChangeSpec := { name := "tickRegularsMatchSpec", fn := fun _ => fun
  | [d1, d2, d3] => { results := [.lit (.bool true)], args := [d1, d2, d3] }
  | _ => none }
def tickRegularsMatchSpecRow : OpenClaim := { program := "ytlpbnpmmndcleaa", sum := "e7367c9aa451fc1afb2687de0d55cbdc31af93fb57106c8ada819444515159ba", func := "headend/headendlaw1.TickRegularsMatchSpec", spec := "tickRegularsMatchSpec", unfollowed := true, recurses := true, named := ["math/bits.divideError", "math/bits.overflowError"], apart := false }
def TickRegularsMatchSpecSaid : Prop := tickRegularsMatchSpecRow.holds Try.pinned (OpenSpec.ofChange tickRegularsMatchSpecSpec)

/-- ITS FALSE NEIGHBOUR: 'it returns false'. Refute it at one input. -/
def tickRegularsMatchSpecWrong : ChangeSpec := { name := "tickRegularsMatchSpec", fn := fun _ => fun
  | [d1, d2, d3] => { results := [.lit (.bool false)], args := [d1, d2, d3] }
  | _ => none }
def TickRegularsMatchSpecWrongFalsely : Prop := tickRegularsMatchSpecRow.holds Try.pinned (OpenSpec.ofChange tickRegularsMatchSpecWrong)

/-- 'headendlaw1.TickRegularsStayClose': WHATEVER THE INPUT: true; the input reads as it did. -/
def tickRegularsStayCloseSpec : ChangeSpec := { name := "tickRegularsStayClose", fn := fun _ => fun
  | [d1, d2, d3] => { results := [.lit (.bool true)], args := [d1, d2, d3] }
  | _ => none }
def tickRegularsStayCloseRow : OpenClaim := { program := "ytlpbnpmmndcleaa", sum := "e7367c9aa451fc1afb2687de0d55cbdc31af93fb57106c8ada819444515159ba", func := "headend/headendlaw1.TickRegularsStayClose", spec := "tickRegularsStayClose", unfollowed := true, recurses := true, named := ["math/bits.divideError", "math/bits.overflowError"], apart := false }
def TickRegularsStayCloseSaid : Prop := tickRegularsStayCloseRow.holds Try.pinned (OpenSpec.ofChange tickRegularsStayCloseSpec)

/-- ITS FALSE NEIGHBOUR: 'it returns false'. Refute it at one input. -/
def tickRegularsStayCloseWrong : ChangeSpec := { name := "tickRegularsStayClose", fn := fun _ => fun
  | [d1, d2, d3] => { results := [.lit (.bool false)], args := [d1, d2, d3] }
  | _ => none }
def TickRegularsStayCloseWrongFalsely : Prop := tickRegularsStayCloseRow.holds Try.pinned (OpenSpec.ofChange tickRegularsStayCloseWrong)

/-- 'headendlaw1.TickWrapsMatchSpec': WHATEVER THE INPUT: true; the input reads as it did. -/
def tickWrapsMatchSpecSpec : ChangeSpec := { name := "tickWrapsMatchSpec", fn := fun _ => fun
  | [d1, d2] => { results := [.lit (.bool true)], args := [d1, d2] }
  | _ => none }
def tickWrapsMatchSpecRow : OpenClaim := { program := "ytlpbnpmmndcleaa", sum := "e7367c9aa451fc1afb2687de0d55cbdc31af93fb57106c8ada819444515159ba", func := "headend/headendlaw1.TickWrapsMatchSpec", spec := "tickWrapsMatchSpec", named := ["math/bits.divideError", "math/bits.overflowError"], apart := false }
def TickWrapsMatchSpecSaid : Prop := tickWrapsMatchSpecRow.holds Try.pinned (OpenSpec.ofChange tickWrapsMatchSpecSpec)

/-- ITS FALSE NEIGHBOUR: 'it returns false'. Refute it at one input. -/
def tickWrapsMatchSpecWrong : ChangeSpec := { name := "tickWrapsMatchSpec", fn := fun _ => fun
  | [d1, d2] => { results := [.lit (.bool false)], args := [d1, d2] }
  | _ => none }
def TickWrapsMatchSpecWrongFalsely : Prop := tickWrapsMatchSpecRow.holds Try.pinned (OpenSpec.ofChange tickWrapsMatchSpecWrong)

/-- 'headendlaw1.TickWrapsComeBack': WHATEVER THE INPUT: true; the input reads as it did. -/
def tickWrapsComeBackSpec : ChangeSpec := { name := "tickWrapsComeBack", fn := fun _ => fun
  | [d1, d2] => { results := [.lit (.bool true)], args := [d1, d2] }
  | _ => none }
def tickWrapsComeBackRow : OpenClaim := { program := "ytlpbnpmmndcleaa", sum := "e7367c9aa451fc1afb2687de0d55cbdc31af93fb57106c8ada819444515159ba", func := "headend/headendlaw1.TickWrapsComeBack", spec := "tickWrapsComeBack", named := ["math/bits.divideError", "math/bits.overflowError"], apart := false }
def TickWrapsComeBackSaid : Prop := tickWrapsComeBackRow.holds Try.pinned (OpenSpec.ofChange tickWrapsComeBackSpec)

/-- ITS FALSE NEIGHBOUR: 'it returns false'. Refute it at one input. -/
def tickWrapsComeBackWrong : ChangeSpec := { name := "tickWrapsComeBack", fn := fun _ => fun
  | [d1, d2] => { results := [.lit (.bool false)], args := [d1, d2] }
  | _ => none }
def TickWrapsComeBackWrongFalsely : Prop := tickWrapsComeBackRow.holds Try.pinned (OpenSpec.ofChange tickWrapsComeBackWrong)

/-- 'headendlaw1.TickKeptsAreClose': WHATEVER THE INPUT: true; the input reads as it did. -/
def tickKeptsAreCloseSpec : ChangeSpec := { name := "tickKeptsAreClose", fn := fun _ => fun
  | [d1, d2, d3] => { results := [.lit (.bool true)], args := [d1, d2, d3] }
  | _ => none }
def tickKeptsAreCloseRow : OpenClaim := { program := "ytlpbnpmmndcleaa", sum := "e7367c9aa451fc1afb2687de0d55cbdc31af93fb57106c8ada819444515159ba", func := "headend/headendlaw1.TickKeptsAreClose", spec := "tickKeptsAreClose", named := ["math/bits.divideError", "math/bits.overflowError"], apart := false }
def TickKeptsAreCloseSaid : Prop := tickKeptsAreCloseRow.holds Try.pinned (OpenSpec.ofChange tickKeptsAreCloseSpec)

/-- ITS FALSE NEIGHBOUR: 'it returns false'. Refute it at one input. -/
def tickKeptsAreCloseWrong : ChangeSpec := { name := "tickKeptsAreClose", fn := fun _ => fun
  | [d1, d2, d3] => { results := [.lit (.bool false)], args := [d1, d2, d3] }
  | _ => none }
def TickKeptsAreCloseWrongFalsely : Prop := tickKeptsAreCloseRow.holds Try.pinned (OpenSpec.ofChange tickKeptsAreCloseWrong)

/-- 'headendlaw1.TickClocksComeBack': WHATEVER THE INPUT: true; the input reads as it did. -/
def tickClocksComeBackSpec : ChangeSpec := { name := "tickClocksComeBack", fn := fun _ => fun
  | [d1, d2, d3] => { results := [.lit (.bool true)], args := [d1, d2, d3] }
  | _ => none }
def tickClocksComeBackRow : OpenClaim := { program := "ytlpbnpmmndcleaa", sum := "e7367c9aa451fc1afb2687de0d55cbdc31af93fb57106c8ada819444515159ba", func := "headend/headendlaw1.TickClocksComeBack", spec := "tickClocksComeBack", named := ["math/bits.divideError", "math/bits.overflowError"], apart := false }
def TickClocksComeBackSaid : Prop := tickClocksComeBackRow.holds Try.pinned (OpenSpec.ofChange tickClocksComeBackSpec)

/-- ITS FALSE NEIGHBOUR: 'it returns false'. Refute it at one input. -/
def tickClocksComeBackWrong : ChangeSpec := { name := "tickClocksComeBack", fn := fun _ => fun
  | [d1, d2, d3] => { results := [.lit (.bool false)], args := [d1, d2, d3] }
  | _ => none }
def TickClocksComeBackWrongFalsely : Prop := tickClocksComeBackRow.holds Try.pinned (OpenSpec.ofChange tickClocksComeBackWrong)

/-- 'headendlaw1.TickSpansMatchSpec': WHATEVER THE INPUT: true; the input reads as it did. -/
def tickSpansMatchSpecSpec : ChangeSpec := { name := "tickSpansMatchSpec", fn := fun _ => fun
  | [d1, d2] => { results := [.lit (.bool true)], args := [d1, d2] }
  | _ => none }
def tickSpansMatchSpecRow : OpenClaim := { program := "ytlpbnpmmndcleaa", sum := "e7367c9aa451fc1afb2687de0d55cbdc31af93fb57106c8ada819444515159ba", func := "headend/headendlaw1.TickSpansMatchSpec", spec := "tickSpansMatchSpec", unfollowed := true, recurses := true, named := ["math/bits.divideError", "math/bits.overflowError"], apart := false }
def TickSpansMatchSpecSaid : Prop := tickSpansMatchSpecRow.holds Try.pinned (OpenSpec.ofChange tickSpansMatchSpecSpec)

/-- ITS FALSE NEIGHBOUR: 'it returns false'. Refute it at one input. -/
def tickSpansMatchSpecWrong : ChangeSpec := { name := "tickSpansMatchSpec", fn := fun _ => fun
  | [d1, d2] => { results := [.lit (.bool false)], args := [d1, d2] }
  | _ => none }
def TickSpansMatchSpecWrongFalsely : Prop := tickSpansMatchSpecRow.holds Try.pinned (OpenSpec.ofChange tickSpansMatchSpecWrong)

/-- 'headendlaw1.TickSpansAddUp': WHATEVER THE INPUT: true; the input reads as it did. -/
def tickSpansAddUpSpec : ChangeSpec := { name := "tickSpansAddUp", fn := fun _ => fun
  | [d1, d2] => { results := [.lit (.bool true)], args := [d1, d2] }
  | _ => none }
def tickSpansAddUpRow : OpenClaim := { program := "ytlpbnpmmndcleaa", sum := "e7367c9aa451fc1afb2687de0d55cbdc31af93fb57106c8ada819444515159ba", func := "headend/headendlaw1.TickSpansAddUp", spec := "tickSpansAddUp", unfollowed := true, recurses := true, named := ["math/bits.divideError", "math/bits.overflowError"], apart := false }
def TickSpansAddUpSaid : Prop := tickSpansAddUpRow.holds Try.pinned (OpenSpec.ofChange tickSpansAddUpSpec)

/-- ITS FALSE NEIGHBOUR: 'it returns false'. Refute it at one input. -/
def tickSpansAddUpWrong : ChangeSpec := { name := "tickSpansAddUp", fn := fun _ => fun
  | [d1, d2] => { results := [.lit (.bool false)], args := [d1, d2] }
  | _ => none }
def TickSpansAddUpWrongFalsely : Prop := tickSpansAddUpRow.holds Try.pinned (OpenSpec.ofChange tickSpansAddUpWrong)

/- THE SECOND FORM. 'bulk': how many values and letters a reading holds, each counted each time it is reached (what is shared counts as often as it is met; a slice's spare places count too). A statement '..UptoSaid' is the law's where the arguments, and the package variables that the reading takes, are together of bulk at most 1048576: NARROWER than '..Said'. Prove '..Said' where nothing that the law and all that it calls make is longer than what came in: it says more and counts as full. Else prove '..UptoSaid'. A law counts once. -/
mutual
def uptoBulk {H : Type} : DataW H → Nat
  | .lit (.string bytes) => bytes.length + 1
  | .lit _ => 1
  | .nil => 1
  | .ptr d => uptoBulk d + 1
  | .slice elems spare => uptoBulkAll elems + uptoBulkAll spare + 1
  | .agg parts => uptoBulkAll parts + 1
  | .iface _ d => uptoBulk d + 1
  | .map entries => uptoBulkEntries entries + 1
  | .held _ => 1
def uptoBulkAll {H : Type} : List (DataW H) → Nat
  | [] => 0
  | d :: r => uptoBulk d + uptoBulkAll r
def uptoBulkEntries {H : Type} : List (Lit × DataW H) → Nat
  | [] => 0
  | x :: r => uptoBulkEntry x + uptoBulkEntries r
def uptoBulkEntry {H : Type} : Lit × DataW H → Nat
  | (.string bytes, d) => bytes.length + uptoBulk d + 1
  | (_, d) => uptoBulk d + 1
 end
def uptoSmall : (H : Type) → List (DataW H) → Bool := fun _ ds => decide (uptoBulkAll ds ≤ 1048576)
def OpenSpec.upto (s : _root_.Go.ChangeSpec) : _root_.Go.OpenSpec := { _root_.Go.OpenSpec.ofChange s with cond := some uptoSmall }

/-- 'headendlaw1.TickConvertsAreClose', WHERE WHAT IT READS IS OF BULK AT MOST 1048576: true; the input reads as it did. -/
def tickConvertsAreCloseUptoRow : OpenClaim := { program := "ytlpbnpmmndcleaa", sum := "e7367c9aa451fc1afb2687de0d55cbdc31af93fb57106c8ada819444515159ba", func := "headend/headendlaw1.TickConvertsAreClose", spec := "tickConvertsAreClose", named := ["math/bits.divideError", "math/bits.overflowError"], apart := false, narrowed := true }
def TickConvertsAreCloseUptoSaid : Prop := tickConvertsAreCloseUptoRow.holds Try.pinned (OpenSpec.upto tickConvertsAreCloseSpec)

/-- 'headendlaw1.TickFramesAreFound', WHERE WHAT IT READS IS OF BULK AT MOST 1048576: true; the input reads as it did. -/
def tickFramesAreFoundUptoRow : OpenClaim := { program := "ytlpbnpmmndcleaa", sum := "e7367c9aa451fc1afb2687de0d55cbdc31af93fb57106c8ada819444515159ba", func := "headend/headendlaw1.TickFramesAreFound", spec := "tickFramesAreFound", named := ["math/bits.divideError", "math/bits.overflowError"], apart := false, narrowed := true }
def TickFramesAreFoundUptoSaid : Prop := tickFramesAreFoundUptoRow.holds Try.pinned (OpenSpec.upto tickFramesAreFoundSpec)

/-- 'headendlaw1.TickRegularsMatchSpec', WHERE WHAT IT READS IS OF BULK AT MOST 1048576: true; the input reads as it did. -/
def tickRegularsMatchSpecUptoRow : OpenClaim := { program := "ytlpbnpmmndcleaa", sum := "e7367c9aa451fc1afb2687de0d55cbdc31af93fb57106c8ada819444515159ba", func := "headend/headendlaw1.TickRegularsMatchSpec", spec := "tickRegularsMatchSpec", unfollowed := true, recurses := true, named := ["math/bits.divideError", "math/bits.overflowError"], apart := false, narrowed := true }
def TickRegularsMatchSpecUptoSaid : Prop := tickRegularsMatchSpecUptoRow.holds Try.pinned (OpenSpec.upto tickRegularsMatchSpecSpec)

/-- 'headendlaw1.TickRegularsStayClose', WHERE WHAT IT READS IS OF BULK AT MOST 1048576: true; the input reads as it did. -/
def tickRegularsStayCloseUptoRow : OpenClaim := { program := "ytlpbnpmmndcleaa", sum := "e7367c9aa451fc1afb2687de0d55cbdc31af93fb57106c8ada819444515159ba", func := "headend/headendlaw1.TickRegularsStayClose", spec := "tickRegularsStayClose", unfollowed := true, recurses := true, named := ["math/bits.divideError", "math/bits.overflowError"], apart := false, narrowed := true }
def TickRegularsStayCloseUptoSaid : Prop := tickRegularsStayCloseUptoRow.holds Try.pinned (OpenSpec.upto tickRegularsStayCloseSpec)

/-- 'headendlaw1.TickWrapsMatchSpec', WHERE WHAT IT READS IS OF BULK AT MOST 1048576: true; the input reads as it did. -/
def tickWrapsMatchSpecUptoRow : OpenClaim := { program := "ytlpbnpmmndcleaa", sum := "e7367c9aa451fc1afb2687de0d55cbdc31af93fb57106c8ada819444515159ba", func := "headend/headendlaw1.TickWrapsMatchSpec", spec := "tickWrapsMatchSpec", named := ["math/bits.divideError", "math/bits.overflowError"], apart := false, narrowed := true }
def TickWrapsMatchSpecUptoSaid : Prop := tickWrapsMatchSpecUptoRow.holds Try.pinned (OpenSpec.upto tickWrapsMatchSpecSpec)

/-- 'headendlaw1.TickWrapsComeBack', WHERE WHAT IT READS IS OF BULK AT MOST 1048576: true; the input reads as it did. -/
def tickWrapsComeBackUptoRow : OpenClaim := { program := "ytlpbnpmmndcleaa", sum := "e7367c9aa451fc1afb2687de0d55cbdc31af93fb57106c8ada819444515159ba", func := "headend/headendlaw1.TickWrapsComeBack", spec := "tickWrapsComeBack", named := ["math/bits.divideError", "math/bits.overflowError"], apart := false, narrowed := true }
def TickWrapsComeBackUptoSaid : Prop := tickWrapsComeBackUptoRow.holds Try.pinned (OpenSpec.upto tickWrapsComeBackSpec)

/-- 'headendlaw1.TickKeptsAreClose', WHERE WHAT IT READS IS OF BULK AT MOST 1048576: true; the input reads as it did. -/
def tickKeptsAreCloseUptoRow : OpenClaim := { program := "ytlpbnpmmndcleaa", sum := "e7367c9aa451fc1afb2687de0d55cbdc31af93fb57106c8ada819444515159ba", func := "headend/headendlaw1.TickKeptsAreClose", spec := "tickKeptsAreClose", named := ["math/bits.divideError", "math/bits.overflowError"], apart := false, narrowed := true }
def TickKeptsAreCloseUptoSaid : Prop := tickKeptsAreCloseUptoRow.holds Try.pinned (OpenSpec.upto tickKeptsAreCloseSpec)

/-- 'headendlaw1.TickClocksComeBack', WHERE WHAT IT READS IS OF BULK AT MOST 1048576: true; the input reads as it did. -/
def tickClocksComeBackUptoRow : OpenClaim := { program := "ytlpbnpmmndcleaa", sum := "e7367c9aa451fc1afb2687de0d55cbdc31af93fb57106c8ada819444515159ba", func := "headend/headendlaw1.TickClocksComeBack", spec := "tickClocksComeBack", named := ["math/bits.divideError", "math/bits.overflowError"], apart := false, narrowed := true }
def TickClocksComeBackUptoSaid : Prop := tickClocksComeBackUptoRow.holds Try.pinned (OpenSpec.upto tickClocksComeBackSpec)

/-- 'headendlaw1.TickSpansMatchSpec', WHERE WHAT IT READS IS OF BULK AT MOST 1048576: true; the input reads as it did. -/
def tickSpansMatchSpecUptoRow : OpenClaim := { program := "ytlpbnpmmndcleaa", sum := "e7367c9aa451fc1afb2687de0d55cbdc31af93fb57106c8ada819444515159ba", func := "headend/headendlaw1.TickSpansMatchSpec", spec := "tickSpansMatchSpec", unfollowed := true, recurses := true, named := ["math/bits.divideError", "math/bits.overflowError"], apart := false, narrowed := true }
def TickSpansMatchSpecUptoSaid : Prop := tickSpansMatchSpecUptoRow.holds Try.pinned (OpenSpec.upto tickSpansMatchSpecSpec)

/-- 'headendlaw1.TickSpansAddUp', WHERE WHAT IT READS IS OF BULK AT MOST 1048576: true; the input reads as it did. -/
def tickSpansAddUpUptoRow : OpenClaim := { program := "ytlpbnpmmndcleaa", sum := "e7367c9aa451fc1afb2687de0d55cbdc31af93fb57106c8ada819444515159ba", func := "headend/headendlaw1.TickSpansAddUp", spec := "tickSpansAddUp", unfollowed := true, recurses := true, named := ["math/bits.divideError", "math/bits.overflowError"], apart := false, narrowed := true }
def TickSpansAddUpUptoSaid : Prop := tickSpansAddUpUptoRow.holds Try.pinned (OpenSpec.upto tickSpansAddUpSpec)

end Rows
end Go.Proofs.Ytlpbnpmmndcleaa
