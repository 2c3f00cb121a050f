/- The machine on data: its operations, what they give, and when an operation of the model is one of them. -/
import Derived.Test.YtpecmhdepggnoaaDmA
import Derived.Laws.Tables
import Derived.Laws.Build
namespace Go.Proofs.Ytpecmhdepggnoaa
open Go.RowKit

inductive Opd where
  | t (k : Nat)
  | c (v : Value)
  | nil
  | fn (f : Nat)
inductive PO where
  | mv (x : Opd)
  | pick (c a b : Opd)
  | bin (op : BinOp) (x y : Opd)
  | un (op : UnOp) (x : Opd)
  | conv (k : IntKind) (x : Opd)
  | load (x : Opd)
  | loadr (x : Opd)
  | idxr (m : Nat) (x i : Opd)
  | loads (n : Nat) (x : Opd)
  | loadsr (n : Nat) (x : Opd)
  | fld (off : Nat) (x : Opd)
  | idx (m : Nat) (x i : Opd)
  | idxs (x i : Opd)
  | len (x : Opd)
  | lens (x : Opd)
  | ext (i : Nat) (x : Opd)
  | nilck (x : Opd)
  | slc (lo hi : Option Opd) (m : Nat) (x : Opd)
  | slcs (lo hi : Option Opd) (x : Opd)
  | build (z : List Value) (parts : List (Nat × Nat × Opd))
  | minmax (mx : Bool) (x y : Opd)
  | mkfn (f : Nat) (cs : List Nat)
  | mkfnr (f : Nat) (cs : List Nat)
  | alloc (z : List Value)
  | box (x : Opd)
  | boxs (x : Opd)
  | row (e m : Nat) (parts : List Opd)
  | rowr (e m : Nat) (parts : List Opd)
  | eqs (n : Bool) (ks : List Nat) (x y : Opd)
  | eqb (n : Bool) (x y : Opd)
  | never
  | eqnil (n : Bool) (x : Opd)
  | mk (e m bytes : Nat) (z : List Value) (n c : Opd)
  | call (f : Nat) (args : List Opd)
  | callm (f : Nat) (args : List Opd)
  | callx (f : Nat) (args : List Opd)
  | callt (f : Nat) (args : List Opd) (avoid : List Nat)
  | callv (x : Opd) (args : List Opd)
  | callc (x : Opd) (args : List Opd)
  | callh (f : Nat) (args : List Opd)
  | asg (x : Opd)
  | app (e m bytes : Nat) (x y : Opd)
  | apph (e m bytes : Nat) (x y : Opd)
  | appa (e m bytes : Nat) (x y : Opd) (avoid : List Nat)
  | store (p x : Opd)
  | stores (k : Nat) (p x : Opd)
/-- An operation: where it puts what it gives, and under which slot's Bool it is carried out. -/
structure POp where
  dst : Nat
  po : PO
  guard : Option (Nat × Bool)

def view (st : ASt) : Opd → AV
  | .c v => .val v
  | .nil => .nilsl
  | .fn f => .val (.func (.func f) #[] #[])
  | .t k => match st k with
    | .own _ _ _ => .alias k
    | .box _ => .ref k 0
    | .held _ _ _ _ => .junk
    | av => av
/-- A cell of a new variable. -/
def zav : Value → AV
  | .slice none 0 0 => .nilsl
  | v => .val v
theorem zav_rel {w : World} {I : Nat → Prop} (v : Value) : Rel w I (zav v) v := by
  unfold zav
  split
  · exact .nilsl
  · exact .val _
/-- The elements of a slice. -/
def rowOf (st : ASt) : AV → Option (List (List AV))
  | .nilsl => some []
  | .ro xs => some xs
  | .alias d => match st d with
    | .own _ _ xs => some xs
    | _ => none
  | _ => none
/-- Where a pointer leads to: the cells, and the place among them. -/
def cellsOf (st : ASt) : AV → Option (List AV × Nat)
  | .roAt cs o => some (cs, o)
  | .ref d o => match st d with
    | .box cs => some (cs, o)
    | _ => none
  | .into d i o => match st d with
    | .own _ _ xs => some (xs.getD i [], o)
    | _ => none
  | _ => none
/-- May it lie in one cell? -/
def AV.cellOK : AV → Bool
  | .val v => v.oneCell'
  | .nilsl | .ro _ | .roAt _ _ => true
  | _ => false

def bad : Prop × AV := (False, .junk)
def vbin (op : BinOp) (a b : Value) : Prop × AV :=
  match op, a, b with
  | .add, .int k x, .int k' y => (k = k', .val (.int k (k.wrap (x + y))))
  | .sub, .int k x, .int k' y => (k = k', .val (.int k (k.wrap (x - y))))
  | .mul, .int k x, .int k' y => (k = k', .val (.int k (k.wrap (x * y))))
  | .quo, .int k x, .int k' y => (k = k' ∧ y ≠ 0, .val (.int k (k.wrap (x.tdiv y))))
  | .rem, .int k x, .int k' y => (k = k' ∧ y ≠ 0, .val (.int k (x.tmod y)))
  | .and, .int k x, .int k' y => (k = k', .val (.int k (k.wrap (BitVec.ofInt k.bits x &&& BitVec.ofInt k.bits y).toNat)))
  | .or, .int k x, .int k' y => (k = k', .val (.int k (k.wrap (BitVec.ofInt k.bits x ||| BitVec.ofInt k.bits y).toNat)))
  | .xor, .int k x, .int k' y => (k = k', .val (.int k (k.wrap (BitVec.ofInt k.bits x ^^^ BitVec.ofInt k.bits y).toNat)))
  | .shl, .int k x, .int _ y => (0 ≤ y, .val (.int k (k.wrap (x * 2 ^ (min y.toNat k.bits)))))
  | .shr, .int k x, .int _ y => (0 ≤ y, .val (.int k (x.fdiv (2 ^ (min y.toNat k.bits)))))
  | .eql, .int k x, .int k' y => (k = k', .val (.bool (x == y)))
  | .neq, .int k x, .int k' y => (k = k', .val (.bool (x != y)))
  | .lss, .int k x, .int k' y => (k = k', .val (.bool (decide (x < y))))
  | .leq, .int k x, .int k' y => (k = k', .val (.bool (decide (x ≤ y))))
  | .gtr, .int k x, .int k' y => (k = k', .val (.bool (decide (y < x))))
  | .geq, .int k x, .int k' y => (k = k', .val (.bool (decide (y ≤ x))))
  | .add, .string x, .string y => (x.size + y.size ≤ 9223372036854775807, .val (.string (x ++ y)))
  | .eql, .string x, .string y => (True, .val (.bool (x.toList == y.toList)))
  | .neq, .string x, .string y => (True, .val (.bool (!(x.toList == y.toList))))
  | .lss, .string x, .string y => (True, .val (.bool (Op.bytesLess x.toList y.toList)))
  | .andNot, .int k x, .int k' y => (k = k', .val (.int k (k.wrap (BitVec.ofInt k.bits x &&& ~~~BitVec.ofInt k.bits y).toNat)))
  | _, _, _ => bad
def vun (op : UnOp) (a : Value) : Prop × AV :=
  match op, a with
  | .neg, .int k x => (True, .val (.int k (k.wrap (0 - x))))
  | .not, .bool b => (True, .val (.bool (!b)))
  | _, _ => bad
/-- A bound of a slice expression. -/
def bnd (st : ASt) (d : Nat) : Option Opd → Prop × Nat
  | none => (True, d)
  | some x => match view st x with
    | .val (.int _ n) => (0 ≤ n, n.toNat)
    | _ => (False, 0)
/-- The cells of a part, m of them. -/
def elemOf (m : Nat) : AV → Prop × List AV
  | .agg cs => (cs.length = m, cs)
  | v => (v.cellOK = true ∧ m = 1, [v])
def setAt (cs : List AV) (i : Nat) : List AV → List AV
  | [] => cs
  | v :: r => setAt (cs.set i v) (i + 1) r
def putParts (cs : List AV) : List (Nat × Nat × AV) → Prop × List AV
  | [] => (True, cs)
  | (i, m, v) :: r => ((i + m ≤ cs.length ∧ (elemOf m v).1) ∧ (putParts (setAt cs i (elemOf m v).2) r).1, (putParts (setAt cs i (elemOf m v).2) r).2)

/-- Are cells the same? Of each: 0 a number, 1 a truth value, 2 a string. -/
def eqAV : List Nat → List AV → List AV → Prop × Bool
  | [], [], [] => (True, true)
  | 0 :: ks, .val (.int k x) :: us, .val (.int k' y) :: vs => (k = k' ∧ (eqAV ks us vs).1, (x == y) && (eqAV ks us vs).2)
  | 1 :: ks, .val (.bool x) :: us, .val (.bool y) :: vs => ((eqAV ks us vs).1, (x == y) && (eqAV ks us vs).2)
  | 2 :: ks, .val (.string x) :: us, .val (.string y) :: vs => ((eqAV ks us vs).1, (x.toList == y.toList) && (eqAV ks us vs).2)
  | _, _, _ => (False, false)
/-- What an operation gives that only looks: under which condition it does not panic, and its value. -/
def hv (st : ASt) : PO → Prop × AV
  | .mv x => (True, view st x)
  | .pick c a b => match view st c with
    | .val (.bool t) => (True, if t = true then view st a else view st b)
    | _ => bad
  | .bin op x y => match view st x, view st y with
    | .val a, .val b => vbin op a b
    | _, _ => bad
  | .un op x => match view st x with
    | .val a => vun op a
    | _ => bad
  | .conv k x => match view st x with
    | .val (.int _ n) => (True, .val (.int k (k.wrap n)))
    | _ => bad
  | .load x => match cellsOf st (view st x) with
    | some (cs, o) => (o < cs.length, cs.getD o .junk)
    | none => bad
  | .loadr x => match view st x with
    | .roAt cs o => (o < cs.length, cs.getD o .junk)
    | _ => bad
  | .idxr m x i => match view st x, view st i with
    | .ro xs, .val (.int _ j) => (0 ≤ j ∧ j < xs.length ∧ (xs.getD j.toNat []).length = m, .roAt (xs.getD j.toNat []) 0)
    | _, _ => bad
  | .loads n x => match cellsOf st (view st x) with
    | some (cs, o) => (o + n ≤ cs.length, .agg ((cs.drop o).take n))
    | none => bad
  | .loadsr n x => match view st x with
    | .roAt cs o => (o + n ≤ cs.length, .agg ((cs.drop o).take n))
    | _ => bad
  | .fld off x => match view st x with
    | .roAt cs o => (True, .roAt cs (o + off))
    | .ref d o => (True, .ref d (o + off))
    | .into d i o => (True, .into d i (o + off))
    | _ => bad
  | .idx m x i => match view st x, view st i with
    | .ro xs, .val (.int _ j) => (0 ≤ j ∧ j < xs.length ∧ (xs.getD j.toNat []).length = m, .roAt (xs.getD j.toNat []) 0)
    | .alias d, .val (.int _ j) => match st d with
      | .own _ m' xs => (m' = m ∧ 0 ≤ j ∧ j < xs.length, .into d j.toNat 0)
      | _ => bad
    | _, _ => bad
  | .idxs x i => match view st x, view st i with
    | .val (.string s), .val (.int _ j) => (0 ≤ j ∧ j < s.size, .val (.int .u8 (s.data.toList.getD j.toNat 0).toNat))
    | _, _ => bad
  | .eqs n ks x y => match view st x, view st y with
    | .agg us, .agg vs => ((eqAV ks us vs).1, .val (.bool (if n = true then !(eqAV ks us vs).2 else (eqAV ks us vs).2)))
    | _, _ => bad
  | .eqb n x y => match view st x, view st y with
    | .val (.bool u), .val (.bool v) => (True, .val (.bool (if n = true then !(u == v) else u == v)))
    | _, _ => bad
  | .len x => match rowOf st (view st x) with
    | some xs => (True, .val (.int .i64 xs.length))
    | none => bad
  | .lens x => match view st x with
    | .val (.string s) => (True, .val (.int .i64 s.size))
    | _ => bad
  | .ext i x => match view st x with
    | .tup vs => (i < vs.length, vs.getD i .junk)
    | _ => bad
  | .nilck x => match view st x with
    | .roAt cs o => (True, .roAt cs o)
    | .ref d o => (True, .ref d o)
    | .into d i o => (True, .into d i o)
    | _ => bad
  | .slc lo hi m x => match view st x with
    | .ro xs => ((bnd st 0 lo).1 ∧ (bnd st xs.length hi).1 ∧ (bnd st 0 lo).2 ≤ (bnd st xs.length hi).2 ∧ (bnd st xs.length hi).2 ≤ xs.length ∧ (∀ x ∈ xs, x.length = m), .ro ((xs.take (bnd st xs.length hi).2).drop (bnd st 0 lo).2))
    | .nilsl => ((bnd st 0 lo).1 ∧ (bnd st 0 hi).1 ∧ (bnd st 0 lo).2 = 0 ∧ (bnd st 0 hi).2 = 0, .nilsl)
    | _ => bad
  | .slcs lo hi x => match view st x with
    | .val (.string s) => ((bnd st 0 lo).1 ∧ (bnd st s.size hi).1 ∧ (bnd st 0 lo).2 ≤ (bnd st s.size hi).2 ∧ (bnd st s.size hi).2 ≤ s.size, .val (.string (s.extract (bnd st 0 lo).2 (bnd st s.size hi).2)))
    | _ => bad
  | .build z parts => ((z.all Value.oneCell') = true ∧ (putParts (z.map zav) (parts.map fun p => (p.1, p.2.1, view st p.2.2))).1, .agg (putParts (z.map zav) (parts.map fun p => (p.1, p.2.1, view st p.2.2))).2)
  | .minmax mx x y => match view st x, view st y with
    | .val (.int k a), .val (.int _ b) => (True, .val (.int k (if mx = true then (if a < b then b else a) else (if b < a then b else a))))
    | _, _ => bad
  | .mkfn f cs => (∀ k ∈ cs, ∃ c, st k = .box c, .clo f cs)
  | .mkfnr f cs => (∀ k ∈ cs, ∃ c o, st k = .roAt c o, .fnv f (cs.map st))
  | .alloc z => (z.all Value.oneCell' = true, .box (z.map zav))
  | .box x => ((view st x).cellOK = true, .box [view st x])
  | .boxs x => match view st x with
    | .agg cs => (True, .box cs)
    | _ => bad
  | .row e m parts => (0 < m ∧ (∀ p ∈ parts, (elemOf m (view st p)).1) ∧ parts.length * m ≤ 16777216, .own e m (parts.map fun p => (elemOf m (view st p)).2))
  | .rowr _ m parts => (0 < m ∧ (∀ p ∈ parts, (elemOf m (view st p)).1) ∧ parts.length * m ≤ 16777216, .ro (parts.map fun p => (elemOf m (view st p)).2))
  | .mk e m bytes z n c => match view st n, view st c with
    | .val (.int .i64 n), .val (.int .i64 c) => (0 < m ∧ z.length = m ∧ (z.all Value.oneCell') = true ∧ 0 ≤ n ∧ n ≤ c ∧ c ≤ 9223372036854775807 ∧ bytes * c ≤ 281474976710656, .own e m (List.replicate n.toNat (z.map zav)))
    | _, _ => bad
  | _ => bad
end Go.Proofs.Ytpecmhdepggnoaa
