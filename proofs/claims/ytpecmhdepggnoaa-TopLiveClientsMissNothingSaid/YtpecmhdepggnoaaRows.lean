/-
  No cell of these rows narrows 'for every input' (looked for: loops, veiled, ifaces, maps, wideKeys, modest, calm, conditions, laid).
  DERIVED. THE GIVEN ROWS OF THIS SEAT. 4 by the template 'for every input the law returns true; each argument reads behind the call as it read before'; 0 by the template 'total and deterministic' (their statements: YtpecmhdepggnoaaTotals.lean).
  GIVEN WITH THE SEED: the statements are not yours to turn. If you find one false, say at which input.
  Laid BY PROGRAM, IN A SANDBOX (cutbox-rows.mjs): the forced cells as the released guide's own fill.sh prints them over the translation 0f2324f49334a07b… (all of the seat's roots in one cut). By AI agents, Wed Nov 11 2026. No macro, syntax, notation, axiom, sorry.
-/
import Derived.Test.YtpecmhdepggnoaaChecked
import GoSem.Claim
import GoSem.ClaimJoined
import GoSem.ClaimMapViews
import Derived.JoinedTies
import Derived.KernelRfl
namespace Go.Proofs.Ytpecmhdepggnoaa
/- THE CELL 'sum', in the pinned program and in every row, IS THE sha256 OF THE DUMP (.gsa) THAT YtpecmhdepggnoaaProg.lean LOADS. Nothing in Lean hashes anything: it is a label: what it is worth is what the hold of that sum in a sandbox is worth. -/
noncomputable def Try.pinned : Pinned := { name := "ytpecmhdepggnoaa", sum := "0f2324f49334a07b763062f81b7824304c8e153bfae0c2a4f4e33f7258b969f0", checked := Try.checked }
namespace Rows
def none {H : Type} : Left H := { results := [], args := [] }

/-- 'headendtop.TopLiveClientsMissNothing': WHATEVER THE INPUT: true; the input reads as it did. -/
def topLiveClientsMissNothingSpec : ChangeSpec := { name := "topLiveClientsMissNothing", fn := fun _ => fun
  | [d1, d2, d3] => { results := [.lit (.bool true)], args := [d1, d2, d3] }
  | _ => none }
def topLiveClientsMissNothingRow : OpenClaim := { program := "ytpecmhdepggnoaa", sum := "0f2324f49334a07b763062f81b7824304c8e153bfae0c2a4f4e33f7258b969f0", func := "headend/headendtop.TopLiveClientsMissNothing", spec := "topLiveClientsMissNothing", unfollowed := true, recurses := true, named := ["math/bits.divideError", "math/bits.overflowError"], apart := false }
def TopLiveClientsMissNothingSaid : Prop := topLiveClientsMissNothingRow.holds Try.pinned (OpenSpec.ofChange topLiveClientsMissNothingSpec)

/-- ITS FALSE NEIGHBOUR: 'it returns false'. Refute it at one input. -/
def topLiveClientsMissNothingWrong : ChangeSpec := { name := "topLiveClientsMissNothing", fn := fun _ => fun
  | [d1, d2, d3] => { results := [.lit (.bool false)], args := [d1, d2, d3] }
  | _ => none }
def TopLiveClientsMissNothingWrongFalsely : Prop := topLiveClientsMissNothingRow.holds Try.pinned (OpenSpec.ofChange topLiveClientsMissNothingWrong)

/-- 'headendtop.TopSeeksFindSamples': WHATEVER THE INPUT: true; the input reads as it did. -/
def topSeeksFindSamplesSpec : ChangeSpec := { name := "topSeeksFindSamples", fn := fun _ => fun
  | [d1, d2, d3] => { results := [.lit (.bool true)], args := [d1, d2, d3] }
  | _ => none }
def topSeeksFindSamplesRow : OpenClaim := { program := "ytpecmhdepggnoaa", sum := "0f2324f49334a07b763062f81b7824304c8e153bfae0c2a4f4e33f7258b969f0", func := "headend/headendtop.TopSeeksFindSamples", spec := "topSeeksFindSamples", recurses := true, named := ["math/bits.divideError", "math/bits.overflowError"], apart := false }
def TopSeeksFindSamplesSaid : Prop := topSeeksFindSamplesRow.holds Try.pinned (OpenSpec.ofChange topSeeksFindSamplesSpec)

/-- ITS FALSE NEIGHBOUR: 'it returns false'. Refute it at one input. -/
def topSeeksFindSamplesWrong : ChangeSpec := { name := "topSeeksFindSamples", fn := fun _ => fun
  | [d1, d2, d3] => { results := [.lit (.bool false)], args := [d1, d2, d3] }
  | _ => none }
def TopSeeksFindSamplesWrongFalsely : Prop := topSeeksFindSamplesRow.holds Try.pinned (OpenSpec.ofChange topSeeksFindSamplesWrong)

/-- 'headendtop.TopCommonCutsAreSeekable': WHATEVER THE INPUT: true; the input reads as it did. -/
def topCommonCutsAreSeekableSpec : ChangeSpec := { name := "topCommonCutsAreSeekable", fn := fun _ => fun
  | [d1, d2] => { results := [.lit (.bool true)], args := [d1, d2] }
  | _ => none }
def topCommonCutsAreSeekableRow : OpenClaim := { program := "ytpecmhdepggnoaa", sum := "0f2324f49334a07b763062f81b7824304c8e153bfae0c2a4f4e33f7258b969f0", func := "headend/headendtop.TopCommonCutsAreSeekable", spec := "topCommonCutsAreSeekable", inPlace := ["math/bits.Sub64"], recurses := true, named := ["math/bits.divideError", "math/bits.overflowError"], apart := false }
def TopCommonCutsAreSeekableSaid : Prop := topCommonCutsAreSeekableRow.holds Try.pinned (OpenSpec.ofChange topCommonCutsAreSeekableSpec)

/-- ITS FALSE NEIGHBOUR: 'it returns false'. Refute it at one input. -/
def topCommonCutsAreSeekableWrong : ChangeSpec := { name := "topCommonCutsAreSeekable", fn := fun _ => fun
  | [d1, d2] => { results := [.lit (.bool false)], args := [d1, d2] }
  | _ => none }
def TopCommonCutsAreSeekableWrongFalsely : Prop := topCommonCutsAreSeekableRow.holds Try.pinned (OpenSpec.ofChange topCommonCutsAreSeekableWrong)

/-- 'headendtop.TopFragmentsCarrySegments': WHATEVER THE INPUT: true; the input reads as it did. -/
def topFragmentsCarrySegmentsSpec : ChangeSpec := { name := "topFragmentsCarrySegments", fn := fun _ => fun
  | [d1, d2] => { results := [.lit (.bool true)], args := [d1, d2] }
  | _ => none }
def topFragmentsCarrySegmentsRow : OpenClaim := { program := "ytpecmhdepggnoaa", sum := "0f2324f49334a07b763062f81b7824304c8e153bfae0c2a4f4e33f7258b969f0", func := "headend/headendtop.TopFragmentsCarrySegments", spec := "topFragmentsCarrySegments", inPlace := ["math/bits.Sub64"], recurses := true, named := ["math/bits.divideError", "math/bits.overflowError"], apart := false }
def TopFragmentsCarrySegmentsSaid : Prop := topFragmentsCarrySegmentsRow.holds Try.pinned (OpenSpec.ofChange topFragmentsCarrySegmentsSpec)

/-- ITS FALSE NEIGHBOUR: 'it returns false'. Refute it at one input. -/
def topFragmentsCarrySegmentsWrong : ChangeSpec := { name := "topFragmentsCarrySegments", fn := fun _ => fun
  | [d1, d2] => { results := [.lit (.bool false)], args := [d1, d2] }
  | _ => none }
def TopFragmentsCarrySegmentsWrongFalsely : Prop := topFragmentsCarrySegmentsRow.holds Try.pinned (OpenSpec.ofChange topFragmentsCarrySegmentsWrong)

/- THE SECOND FORM. 'bulk': how many values and letters a reading holds, each counted each time it is reached (what is shared counts as often as it is met; a slice's spare places count too). A statement '..UptoSaid' is the law's where the arguments, and the package variables that the reading takes, are together of bulk at most 1048576: NARROWER than '..Said'. Prove '..Said' where nothing that the law and all that it calls make is longer than what came in: it says more and counts as full. Else prove '..UptoSaid'. A law counts once. -/
mutual
def uptoBulk {H : Type} : DataW H → Nat
  | .lit (.string bytes) => bytes.length + 1
  | .lit _ => 1
  | .nil => 1
  | .ptr d => uptoBulk d + 1
  | .slice elems spare => uptoBulkAll elems + uptoBulkAll spare + 1
  | .agg parts => uptoBulkAll parts + 1
  | .iface _ d => uptoBulk d + 1
  | .map entries => uptoBulkEntries entries + 1
  | .held _ => 1
def uptoBulkAll {H : Type} : List (DataW H) → Nat
  | [] => 0
  | d :: r => uptoBulk d + uptoBulkAll r
def uptoBulkEntries {H : Type} : List (Lit × DataW H) → Nat
  | [] => 0
  | x :: r => uptoBulkEntry x + uptoBulkEntries r
def uptoBulkEntry {H : Type} : Lit × DataW H → Nat
  | (.string bytes, d) => bytes.length + uptoBulk d + 1
  | (_, d) => uptoBulk d + 1
 end
def uptoSmall : (H : Type) → List (DataW H) → Bool := fun _ ds => decide (uptoBulkAll ds ≤ 1048576)
def OpenSpec.upto (s : _root_.Go.ChangeSpec) : _root_.Go.OpenSpec := { _root_.Go.OpenSpec.ofChange s with cond := some uptoSmall }

/-- 'headendtop.TopLiveClientsMissNothing', WHERE WHAT IT READS IS OF BULK AT MOST 1048576: true; the input reads as it did. -/
def topLiveClientsMissNothingUptoRow : OpenClaim := { program := "ytpecmhdepggnoaa", sum := "0f2324f49334a07b763062f81b7824304c8e153bfae0c2a4f4e33f7258b969f0", func := "headend/headendtop.TopLiveClientsMissNothing", spec := "topLiveClientsMissNothing", unfollowed := true, recurses := true, named := ["math/bits.divideError", "math/bits.overflowError"], apart := false, narrowed := true }
def TopLiveClientsMissNothingUptoSaid : Prop := topLiveClientsMissNothingUptoRow.holds Try.pinned (OpenSpec.upto topLiveClientsMissNothingSpec)

/-- 'headendtop.TopSeeksFindSamples', WHERE WHAT IT READS IS OF BULK AT MOST 1048576: true; the input reads as it did. -/
def topSeeksFindSamplesUptoRow : OpenClaim := { program := "ytpecmhdepggnoaa", sum := "0f2324f49334a07b763062f81b7824304c8e153bfae0c2a4f4e33f7258b969f0", func := "headend/headendtop.TopSeeksFindSamples", spec := "topSeeksFindSamples", recurses := true, named := ["math/bits.divideError", "math/bits.overflowError"], apart := false, narrowed := true }
def TopSeeksFindSamplesUptoSaid : Prop := topSeeksFindSamplesUptoRow.holds Try.pinned (OpenSpec.upto topSeeksFindSamplesSpec)

/-- 'headendtop.TopCommonCutsAreSeekable', WHERE WHAT IT READS IS OF BULK AT MOST 1048576: true; the input reads as it did. -/
def topCommonCutsAreSeekableUptoRow : OpenClaim := { program := "ytpecmhdepggnoaa", sum := "0f2324f49334a07b763062f81b7824304c8e153bfae0c2a4f4e33f7258b969f0", func := "headend/headendtop.TopCommonCutsAreSeekable", spec := "topCommonCutsAreSeekable", inPlace := ["math/bits.Sub64"], recurses := true, named := ["math/bits.divideError", "math/bits.overflowError"], apart := false, narrowed := true }
def TopCommonCutsAreSeekableUptoSaid : Prop := topCommonCutsAreSeekableUptoRow.holds Try.pinned (OpenSpec.upto topCommonCutsAreSeekableSpec)

/-- 'headendtop.TopFragmentsCarrySegments', WHERE WHAT IT READS IS OF BULK AT MOST 1048576: true; the input reads as it did. -/
def topFragmentsCarrySegmentsUptoRow : OpenClaim := { program := "ytpecmhdepggnoaa", sum := "0f2324f49334a07b763062f81b7824304c8e153bfae0c2a4f4e33f7258b969f0", func := "headend/headendtop.TopFragmentsCarrySegments", spec := "topFragmentsCarrySegments", inPlace := ["math/bits.Sub64"], recurses := true, named := ["math/bits.divideError", "math/bits.overflowError"], apart := false, narrowed := true }
def TopFragmentsCarrySegmentsUptoSaid : Prop := topFragmentsCarrySegmentsUptoRow.holds Try.pinned (OpenSpec.upto topFragmentsCarrySegmentsSpec)

end Rows
end Go.Proofs.Ytpecmhdepggnoaa
