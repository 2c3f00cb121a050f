/- Segments: cut.boundary, cut.rowFault, by the machine on data. -/
import Derived.Test.YtjeemcpdmiajmaaKDo
namespace Go.Proofs.Ytjeemcpdmiajmaa
open Go.RowKit
set_option linter.unusedSimpArgs false

structure Seg where
  number : Int
  frm : Int
  to : Int
  beg : Int
  len : Int
  bytes : Int
  lead : Int
def Seg.av (s : Seg) : List AV := [.val (.int .i64 s.number), .val (.int .i64 s.frm), .val (.int .i64 s.to), .val (.int .i64 s.beg), .val (.int .i64 s.len), .val (.int .i64 s.bytes), .val (.int .i64 s.lead)]
def Seg.bnd (s : Seg) : Int := s.beg + s.lead
def Seg.bw (s : Seg) : Int := IntKind.i64.wrap s.bnd


def badSeg (s : Seg) : Bool := noTime s.beg || noTime s.lead || noTime s.len || noTime (IntKind.i64.wrap (s.bw + s.len))
def rowGo : Option Int → List Seg → Int
  | _, [] => 0
  | p, s :: r => if badSeg s then 1 else if (p.any fun q => decide (s.bw < q)) || decide (s.len < 0) then 8 else rowGo (some s.bw) r
def row (l : List Seg) : Int := if 1000 < l.length then 2 else rowGo none l
theorem row_len {l : List Seg} (h : row l = 0) : l.length ≤ 1000 := by
  unfold row at h; split at h
  · omega
  · omega
def prvB (l : List Seg) (k : Nat) : Option Int := if k = 0 then none else l[k-1]?.map Seg.bw
theorem prvB_succ (l : List Seg) (k : Nat) (h : k < l.length) : prvB l (k + 1) = some l[k].bw := by simp [prvB, h]

end Go.Proofs.Ytjeemcpdmiajmaa
