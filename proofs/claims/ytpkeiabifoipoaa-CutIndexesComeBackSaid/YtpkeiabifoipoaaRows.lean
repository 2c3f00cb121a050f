/-
  No cell of these rows narrows 'for every input' (looked for: loops, veiled, ifaces, maps, wideKeys, modest, calm, conditions, laid).
  DERIVED. THE GIVEN ROWS OF THIS SEAT. 8 by the template 'for every input the law returns true; each argument reads behind the call as it read before'; 0 by the template 'total and deterministic' (their statements: YtpkeiabifoipoaaTotals.lean).
  GIVEN WITH THE SEED: the statements are not yours to turn. If you find one false, say at which input.
  Laid BY PROGRAM, IN A SANDBOX (cutbox-rows.mjs): the forced cells as the released guide's own fill.sh prints them over the translation 401ca2af9734356c… (all of the seat's roots in one cut). By AI agents, Wed Nov 11 2026. No macro, syntax, notation, axiom, sorry.
-/
import Derived.Test.YtpkeiabifoipoaaChecked
import GoSem.Claim
import GoSem.ClaimJoined
import GoSem.ClaimMapViews
import Derived.JoinedTies
import Derived.KernelRfl
namespace Go.Proofs.Ytpkeiabifoipoaa
/- THE CELL 'sum', in the pinned program and in every row, IS THE sha256 OF THE DUMP (.gsa) THAT YtpkeiabifoipoaaProg.lean LOADS. Nothing in Lean hashes anything: it is a label: what it is worth is what the hold of that sum in a sandbox is worth. -/
noncomputable def Try.pinned : Pinned := { name := "ytpkeiabifoipoaa", sum := "401ca2af9734356c8cbf923aa33247114a1483a88dca897ac49178c67853e4bb", checked := Try.checked }
namespace Rows
def none {H : Type} : Left H := { results := [], args := [] }

/-- 'headendlaw4.CutGridsAreLate': WHATEVER THE INPUT: true; the input reads as it did. -/
def cutGridsAreLateSpec : ChangeSpec := { name := "cutGridsAreLate", fn := fun _ => fun
  | [d1, d2] => { results := [.lit (.bool true)], args := [d1, d2] }
  | _ => none }
def cutGridsAreLateRow : OpenClaim := { program := "ytpkeiabifoipoaa", sum := "401ca2af9734356c8cbf923aa33247114a1483a88dca897ac49178c67853e4bb", func := "headend/headendlaw4.CutGridsAreLate", spec := "cutGridsAreLate", apart := false }
def CutGridsAreLateSaid : Prop := cutGridsAreLateRow.holds Try.pinned (OpenSpec.ofChange cutGridsAreLateSpec)

/-- ITS FALSE NEIGHBOUR: 'it returns false'. Refute it at one input. -/
def cutGridsAreLateWrong : ChangeSpec := { name := "cutGridsAreLate", fn := fun _ => fun
  | [d1, d2] => { results := [.lit (.bool false)], args := [d1, d2] }
  | _ => none }
def CutGridsAreLateWrongFalsely : Prop := cutGridsAreLateRow.holds Try.pinned (OpenSpec.ofChange cutGridsAreLateWrong)

/-- 'headendlaw4.CutChoosesBest': WHATEVER THE INPUT: true; the input reads as it did. -/
def cutChoosesBestSpec : ChangeSpec := { name := "cutChoosesBest", fn := fun _ => fun
  | [d1, d2, d3, d4] => { results := [.lit (.bool true)], args := [d1, d2, d3, d4] }
  | _ => none }
def cutChoosesBestRow : OpenClaim := { program := "ytpkeiabifoipoaa", sum := "401ca2af9734356c8cbf923aa33247114a1483a88dca897ac49178c67853e4bb", func := "headend/headendlaw4.CutChoosesBest", spec := "cutChoosesBest", unfollowed := true, recurses := true, apart := false }
def CutChoosesBestSaid : Prop := cutChoosesBestRow.holds Try.pinned (OpenSpec.ofChange cutChoosesBestSpec)

/-- ITS FALSE NEIGHBOUR: 'it returns false'. Refute it at one input. -/
def cutChoosesBestWrong : ChangeSpec := { name := "cutChoosesBest", fn := fun _ => fun
  | [d1, d2, d3, d4] => { results := [.lit (.bool false)], args := [d1, d2, d3, d4] }
  | _ => none }
def CutChoosesBestWrongFalsely : Prop := cutChoosesBestRow.holds Try.pinned (OpenSpec.ofChange cutChoosesBestWrong)

/-- 'headendlaw4.CutChoosesMatchSpec': WHATEVER THE INPUT: true; the input reads as it did. -/
def cutChoosesMatchSpecSpec : ChangeSpec := { name := "cutChoosesMatchSpec", fn := fun _ => fun
  | [d1, d2, d3] => { results := [.lit (.bool true)], args := [d1, d2, d3] }
  | _ => none }
def cutChoosesMatchSpecRow : OpenClaim := { program := "ytpkeiabifoipoaa", sum := "401ca2af9734356c8cbf923aa33247114a1483a88dca897ac49178c67853e4bb", func := "headend/headendlaw4.CutChoosesMatchSpec", spec := "cutChoosesMatchSpec", unfollowed := true, recurses := true, apart := false }
def CutChoosesMatchSpecSaid : Prop := cutChoosesMatchSpecRow.holds Try.pinned (OpenSpec.ofChange cutChoosesMatchSpecSpec)

/-- ITS FALSE NEIGHBOUR: 'it returns false'. Refute it at one input. -/
def cutChoosesMatchSpecWrong : ChangeSpec := { name := "cutChoosesMatchSpec", fn := fun _ => fun
  | [d1, d2, d3] => { results := [.lit (.bool false)], args := [d1, d2, d3] }
  | _ => none }
def CutChoosesMatchSpecWrongFalsely : Prop := cutChoosesMatchSpecRow.holds Try.pinned (OpenSpec.ofChange cutChoosesMatchSpecWrong)

/-- 'headendlaw4.CutPiecesAreAll': WHATEVER THE INPUT: true; the input reads as it did. -/
def cutPiecesAreAllSpec : ChangeSpec := { name := "cutPiecesAreAll", fn := fun _ => fun
  | [d1, d2, d3] => { results := [.lit (.bool true)], args := [d1, d2, d3] }
  | _ => none }
def cutPiecesAreAllRow : OpenClaim := { program := "ytpkeiabifoipoaa", sum := "401ca2af9734356c8cbf923aa33247114a1483a88dca897ac49178c67853e4bb", func := "headend/headendlaw4.CutPiecesAreAll", spec := "cutPiecesAreAll", apart := false }
def CutPiecesAreAllSaid : Prop := cutPiecesAreAllRow.holds Try.pinned (OpenSpec.ofChange cutPiecesAreAllSpec)

/-- ITS FALSE NEIGHBOUR: 'it returns false'. Refute it at one input. -/
def cutPiecesAreAllWrong : ChangeSpec := { name := "cutPiecesAreAll", fn := fun _ => fun
  | [d1, d2, d3] => { results := [.lit (.bool false)], args := [d1, d2, d3] }
  | _ => none }
def CutPiecesAreAllWrongFalsely : Prop := cutPiecesAreAllRow.holds Try.pinned (OpenSpec.ofChange cutPiecesAreAllWrong)

/-- 'headendlaw4.CutSeeksAreFetched': WHATEVER THE INPUT: true; the input reads as it did. -/
def cutSeeksAreFetchedSpec : ChangeSpec := { name := "cutSeeksAreFetched", fn := fun _ => fun
  | [d1, d2, d3, d4] => { results := [.lit (.bool true)], args := [d1, d2, d3, d4] }
  | _ => none }
def cutSeeksAreFetchedRow : OpenClaim := { program := "ytpkeiabifoipoaa", sum := "401ca2af9734356c8cbf923aa33247114a1483a88dca897ac49178c67853e4bb", func := "headend/headendlaw4.CutSeeksAreFetched", spec := "cutSeeksAreFetched", apart := false }
def CutSeeksAreFetchedSaid : Prop := cutSeeksAreFetchedRow.holds Try.pinned (OpenSpec.ofChange cutSeeksAreFetchedSpec)

/-- ITS FALSE NEIGHBOUR: 'it returns false'. Refute it at one input. -/
def cutSeeksAreFetchedWrong : ChangeSpec := { name := "cutSeeksAreFetched", fn := fun _ => fun
  | [d1, d2, d3, d4] => { results := [.lit (.bool false)], args := [d1, d2, d3, d4] }
  | _ => none }
def CutSeeksAreFetchedWrongFalsely : Prop := cutSeeksAreFetchedRow.holds Try.pinned (OpenSpec.ofChange cutSeeksAreFetchedWrong)

/-- 'headendlaw4.CutRangesMatchSpec': WHATEVER THE INPUT: true; the input reads as it did. -/
def cutRangesMatchSpecSpec : ChangeSpec := { name := "cutRangesMatchSpec", fn := fun _ => fun
  | [d1, d2, d3, d4] => { results := [.lit (.bool true)], args := [d1, d2, d3, d4] }
  | _ => none }
def cutRangesMatchSpecRow : OpenClaim := { program := "ytpkeiabifoipoaa", sum := "401ca2af9734356c8cbf923aa33247114a1483a88dca897ac49178c67853e4bb", func := "headend/headendlaw4.CutRangesMatchSpec", spec := "cutRangesMatchSpec", apart := false }
def CutRangesMatchSpecSaid : Prop := cutRangesMatchSpecRow.holds Try.pinned (OpenSpec.ofChange cutRangesMatchSpecSpec)

/-- ITS FALSE NEIGHBOUR: 'it returns false'. Refute it at one input. -/
def cutRangesMatchSpecWrong : ChangeSpec := { name := "cutRangesMatchSpec", fn := fun _ => fun
  | [d1, d2, d3, d4] => { results := [.lit (.bool false)], args := [d1, d2, d3, d4] }
  | _ => none }
def CutRangesMatchSpecWrongFalsely : Prop := cutRangesMatchSpecRow.holds Try.pinned (OpenSpec.ofChange cutRangesMatchSpecWrong)

/-- 'headendlaw4.CutMillisAddUp': WHATEVER THE INPUT: true; the input reads as it did. -/
def cutMillisAddUpSpec : ChangeSpec := { name := "cutMillisAddUp", fn := fun _ => fun
  | [d1, d2] => { results := [.lit (.bool true)], args := [d1, d2] }
  | _ => none }
def cutMillisAddUpRow : OpenClaim := { program := "ytpkeiabifoipoaa", sum := "401ca2af9734356c8cbf923aa33247114a1483a88dca897ac49178c67853e4bb", func := "headend/headendlaw4.CutMillisAddUp", spec := "cutMillisAddUp", unfollowed := true, recurses := true, named := ["math/bits.divideError", "math/bits.overflowError"], apart := false }
def CutMillisAddUpSaid : Prop := cutMillisAddUpRow.holds Try.pinned (OpenSpec.ofChange cutMillisAddUpSpec)

/-- ITS FALSE NEIGHBOUR: 'it returns false'. Refute it at one input. -/
def cutMillisAddUpWrong : ChangeSpec := { name := "cutMillisAddUp", fn := fun _ => fun
  | [d1, d2] => { results := [.lit (.bool false)], args := [d1, d2] }
  | _ => none }
def CutMillisAddUpWrongFalsely : Prop := cutMillisAddUpRow.holds Try.pinned (OpenSpec.ofChange cutMillisAddUpWrong)

/-- 'headendlaw4.CutIndexesComeBack': WHATEVER THE INPUT: true; the input reads as it did. -/
def cutIndexesComeBackSpec : ChangeSpec := { name := "cutIndexesComeBack", fn := fun _ => fun
  | [d1, d2, d3] => { results := [.lit (.bool true)], args := [d1, d2, d3] }
  | _ => none }
def cutIndexesComeBackRow : OpenClaim := { program := "ytpkeiabifoipoaa", sum := "401ca2af9734356c8cbf923aa33247114a1483a88dca897ac49178c67853e4bb", func := "headend/headendlaw4.CutIndexesComeBack", spec := "cutIndexesComeBack", inPlace := ["math/bits.Sub64", "math/bits.Add64"], apart := false }
def CutIndexesComeBackSaid : Prop := cutIndexesComeBackRow.holds Try.pinned (OpenSpec.ofChange cutIndexesComeBackSpec)

/-- ITS FALSE NEIGHBOUR: 'it returns false'. Refute it at one input. -/
def cutIndexesComeBackWrong : ChangeSpec := { name := "cutIndexesComeBack", fn := fun _ => fun
  | [d1, d2, d3] => { results := [.lit (.bool false)], args := [d1, d2, d3] }
  | _ => none }
def CutIndexesComeBackWrongFalsely : Prop := cutIndexesComeBackRow.holds Try.pinned (OpenSpec.ofChange cutIndexesComeBackWrong)

/- THE SECOND FORM. 'bulk': how many values and letters a reading holds, each counted each time it is reached (what is shared counts as often as it is met; a slice's spare places count too). A statement '..UptoSaid' is the law's where the arguments, and the package variables that the reading takes, are together of bulk at most 1048576: NARROWER than '..Said'. Prove '..Said' where nothing that the law and all that it calls make is longer than what came in: it says more and counts as full. Else prove '..UptoSaid'. A law counts once. -/
mutual
def uptoBulk {H : Type} : DataW H → Nat
  | .lit (.string bytes) => bytes.length + 1
  | .lit _ => 1
  | .nil => 1
  | .ptr d => uptoBulk d + 1
  | .slice elems spare => uptoBulkAll elems + uptoBulkAll spare + 1
  | .agg parts => uptoBulkAll parts + 1
  | .iface _ d => uptoBulk d + 1
  | .map entries => uptoBulkEntries entries + 1
  | .held _ => 1
def uptoBulkAll {H : Type} : List (DataW H) → Nat
  | [] => 0
  | d :: r => uptoBulk d + uptoBulkAll r
def uptoBulkEntries {H : Type} : List (Lit × DataW H) → Nat
  | [] => 0
  | x :: r => uptoBulkEntry x + uptoBulkEntries r
def uptoBulkEntry {H : Type} : Lit × DataW H → Nat
  | (.string bytes, d) => bytes.length + uptoBulk d + 1
  | (_, d) => uptoBulk d + 1
 end
def uptoSmall : (H : Type) → List (DataW H) → Bool := fun _ ds => decide (uptoBulkAll ds ≤ 1048576)
def OpenSpec.upto (s : _root_.Go.ChangeSpec) : _root_.Go.OpenSpec := { _root_.Go.OpenSpec.ofChange s with cond := some uptoSmall }

/-- 'headendlaw4.CutGridsAreLate', WHERE WHAT IT READS IS OF BULK AT MOST 1048576: true; the input reads as it did. -/
def cutGridsAreLateUptoRow : OpenClaim := { program := "ytpkeiabifoipoaa", sum := "401ca2af9734356c8cbf923aa33247114a1483a88dca897ac49178c67853e4bb", func := "headend/headendlaw4.CutGridsAreLate", spec := "cutGridsAreLate", apart := false, narrowed := true }
def CutGridsAreLateUptoSaid : Prop := cutGridsAreLateUptoRow.holds Try.pinned (OpenSpec.upto cutGridsAreLateSpec)

/-- 'headendlaw4.CutChoosesBest', WHERE WHAT IT READS IS OF BULK AT MOST 1048576: true; the input reads as it did. -/
def cutChoosesBestUptoRow : OpenClaim := { program := "ytpkeiabifoipoaa", sum := "401ca2af9734356c8cbf923aa33247114a1483a88dca897ac49178c67853e4bb", func := "headend/headendlaw4.CutChoosesBest", spec := "cutChoosesBest", unfollowed := true, recurses := true, apart := false, narrowed := true }
def CutChoosesBestUptoSaid : Prop := cutChoosesBestUptoRow.holds Try.pinned (OpenSpec.upto cutChoosesBestSpec)

/-- 'headendlaw4.CutChoosesMatchSpec', WHERE WHAT IT READS IS OF BULK AT MOST 1048576: true; the input reads as it did. -/
def cutChoosesMatchSpecUptoRow : OpenClaim := { program := "ytpkeiabifoipoaa", sum := "401ca2af9734356c8cbf923aa33247114a1483a88dca897ac49178c67853e4bb", func := "headend/headendlaw4.CutChoosesMatchSpec", spec := "cutChoosesMatchSpec", unfollowed := true, recurses := true, apart := false, narrowed := true }
def CutChoosesMatchSpecUptoSaid : Prop := cutChoosesMatchSpecUptoRow.holds Try.pinned (OpenSpec.upto cutChoosesMatchSpecSpec)

/-- 'headendlaw4.CutPiecesAreAll', WHERE WHAT IT READS IS OF BULK AT MOST 1048576: true; the input reads as it did. -/
def cutPiecesAreAllUptoRow : OpenClaim := { program := "ytpkeiabifoipoaa", sum := "401ca2af9734356c8cbf923aa33247114a1483a88dca897ac49178c67853e4bb", func := "headend/headendlaw4.CutPiecesAreAll", spec := "cutPiecesAreAll", apart := false, narrowed := true }
def CutPiecesAreAllUptoSaid : Prop := cutPiecesAreAllUptoRow.holds Try.pinned (OpenSpec.upto cutPiecesAreAllSpec)

/-- 'headendlaw4.CutSeeksAreFetched', WHERE WHAT IT READS IS OF BULK AT MOST 1048576: true; the input reads as it did. -/
def cutSeeksAreFetchedUptoRow : OpenClaim := { program := "ytpkeiabifoipoaa", sum := "401ca2af9734356c8cbf923aa33247114a1483a88dca897ac49178c67853e4bb", func := "headend/headendlaw4.CutSeeksAreFetched", spec := "cutSeeksAreFetched", apart := false, narrowed := true }
def CutSeeksAreFetchedUptoSaid : Prop := cutSeeksAreFetchedUptoRow.holds Try.pinned (OpenSpec.upto cutSeeksAreFetchedSpec)

/-- 'headendlaw4.CutRangesMatchSpec', WHERE WHAT IT READS IS OF BULK AT MOST 1048576: true; the input reads as it did. -/
def cutRangesMatchSpecUptoRow : OpenClaim := { program := "ytpkeiabifoipoaa", sum := "401ca2af9734356c8cbf923aa33247114a1483a88dca897ac49178c67853e4bb", func := "headend/headendlaw4.CutRangesMatchSpec", spec := "cutRangesMatchSpec", apart := false, narrowed := true }
def CutRangesMatchSpecUptoSaid : Prop := cutRangesMatchSpecUptoRow.holds Try.pinned (OpenSpec.upto cutRangesMatchSpecSpec)

/-- 'headendlaw4.CutMillisAddUp', WHERE WHAT IT READS IS OF BULK AT MOST 1048576: true; the input reads as it did. -/
def cutMillisAddUpUptoRow : OpenClaim := { program := "ytpkeiabifoipoaa", sum := "401ca2af9734356c8cbf923aa33247114a1483a88dca897ac49178c67853e4bb", func := "headend/headendlaw4.CutMillisAddUp", spec := "cutMillisAddUp", unfollowed := true, recurses := true, named := ["math/bits.divideError", "math/bits.overflowError"], apart := false, narrowed := true }
def CutMillisAddUpUptoSaid : Prop := cutMillisAddUpUptoRow.holds Try.pinned (OpenSpec.upto cutMillisAddUpSpec)

/-- 'headendlaw4.CutIndexesComeBack', WHERE WHAT IT READS IS OF BULK AT MOST 1048576: true; the input reads as it did. -/
def cutIndexesComeBackUptoRow : OpenClaim := { program := "ytpkeiabifoipoaa", sum := "401ca2af9734356c8cbf923aa33247114a1483a88dca897ac49178c67853e4bb", func := "headend/headendlaw4.CutIndexesComeBack", spec := "cutIndexesComeBack", inPlace := ["math/bits.Sub64", "math/bits.Add64"], apart := false, narrowed := true }
def CutIndexesComeBackUptoSaid : Prop := cutIndexesComeBackUptoRow.holds Try.pinned (OpenSpec.upto cutIndexesComeBackSpec)

end Rows
end Go.Proofs.Ytpkeiabifoipoaa
