/- A small machine on data, for walks: what a frame's slots hold, said by lists instead of memory. This part: the values, what they stand for in memory, and how that stays. -/
import Derived.Test.YtpecmhdepggnoaaOwn
import Derived.Deep.MidRow
namespace Go.Proofs.Ytpecmhdepggnoaa
open Go.RowKit

/-- What a slot holds: nothing that is known; a value that memory does not bear on; a nil slice; a slice, or a pointer into a row, that nobody writes any more; a struct; results; a closure that has caught variables of the frame. Or something of the frame's own: a slice that only this slot has; a new variable; the slice of another slot; a pointer into another slot's variable or slice. Or a function with what it has caught (nobody writes that); or, in a slot that no code knows, a slice that only the known value v leads to. -/
inductive AV where
  | junk
  | val (v : Value)
  | nilsl
  | ro (xs : List (List AV))
  | roAt (cs : List AV) (o : Nat)
  | agg (cs : List AV)
  | tup (cs : List AV)
  | clo (f : FuncId) (ds : List Nat)
  | own (e m : Nat) (xs : List (List AV))
  | box (cs : List AV)
  | alias (d : Nat)
  | ref (d o : Nat)
  | into (d i o : Nat)
  | fnv (f : FuncId) (cs : List AV)
  | held (e m : Nat) (xs : List (List AV)) (v : Value)
  deriving Inhabited

def AV.isHome : AV → Bool
  | .own _ _ _ | .box _ | .held _ _ _ _ => true
  | _ => false
def AV.isRef : AV → Bool
  | .alias _ | .ref _ _ | .into _ _ _ | .clo _ _ => true
  | _ => false

/-- What stands for it in memory, where the blocks in I are written by nobody. -/
inductive Rel (w : World) (I : Nat → Prop) : AV → Value → Prop
  | junk (v) : Rel w I .junk v
  | val (v) : Rel w I (.val v) v
  | nilsl : Rel w I .nilsl (.slice none 0 0)
  | ro0 (A c) : Rel w I (.ro []) (.slice A 0 c)
  | ro (xs : List (List AV)) (b off c m : Nat) (f : Nat → Value) (hb : I b) (hm : ∀ x ∈ xs, x.length = m) (hc : xs.length ≤ c) (hx : xs.length ≤ maxLen)
      (hcell : ∀ j, j < xs.length * m → w.cell? ⟨b, off + j, none⟩ = some (f j) ∧ (f j).oneCell' = true) (hrel : ∀ j av, xs.flatten[j]? = some av → Rel w I av (f j)) : Rel w I (.ro xs) (.slice (some ⟨b, off, none⟩) xs.length c)
  | roAt (cs : List AV) (b off o : Nat) (f : Nat → Value) (hb : I b)
      (hcell : ∀ j, j < cs.length → w.cell? ⟨b, off + j, none⟩ = some (f j) ∧ (f j).oneCell' = true) (hrel : ∀ j av, cs[j]? = some av → Rel w I av (f j)) : Rel w I (.roAt cs o) (.pointer (some ⟨b, off + o, none⟩))
  | agg (cs : List AV) (vs : Array Value) (hl : vs.size = cs.length) (h1 : ∀ u ∈ vs.toList, u.oneCell' = true) (hrel : ∀ j av, cs[j]? = some av → Rel w I av (vs.getD j undef)) : Rel w I (.agg cs) (.agg vs)
  | tup (cs : List AV) (vs : Array Value) (hl : vs.size = cs.length) (hrel : ∀ j av, cs[j]? = some av → Rel w I av (vs.getD j undef)) : Rel w I (.tup cs) (.tuple vs)
  | fnv (f : FuncId) (cs : List AV) (vs : Array Value) (hl : vs.size = cs.length) (hrel : ∀ j av, cs[j]? = some av → Rel w I av (vs.getD j undef)) : Rel w I (.fnv f cs) (.func (.func f) #[] vs)

theorem Rel.mono {w w' : World} {I I' : Nat → Prop} (hI : ∀ b, I b → I' b) (hc : ∀ b o, I b → w'.cell? ⟨b, o, none⟩ = w.cell? ⟨b, o, none⟩) {av : AV} {v : Value} (h : Rel w I av v) : Rel w' I' av v := by
  induction h with
  | junk v => exact .junk v
  | val v => exact .val v
  | nilsl => exact .nilsl
  | ro0 A c => exact .ro0 A c
  | ro xs b off c m f hb hm hcp hx hcell _ ih => exact .ro xs b off c m f (hI _ hb) hm hcp hx (fun j hj => ⟨(hc _ _ hb).trans (hcell j hj).1, (hcell j hj).2⟩) ih
  | roAt cs b off o f hb hcell _ ih => exact .roAt cs b off o f (hI _ hb) (fun j hj => ⟨(hc _ _ hb).trans (hcell j hj).1, (hcell j hj).2⟩) ih
  | agg cs vs hl h1 _ ih => exact .agg cs vs hl h1 ih
  | tup cs vs hl _ ih => exact .tup cs vs hl ih
  | fnv f cs vs hl _ ih => exact .fnv f cs vs hl ih

/-- Without memory. -/
inductive AV.Flat : AV → Prop
  | junk : Flat .junk
  | val (v) : Flat (.val v)
  | nilsl : Flat .nilsl
  | ro0 : Flat (.ro [])
  | agg (cs) (h : ∀ av ∈ cs, Flat av) : Flat (.agg cs)
  | tup (cs) (h : ∀ av ∈ cs, Flat av) : Flat (.tup cs)
  | fnv (f) (cs) (h : ∀ av ∈ cs, Flat av) : Flat (.fnv f cs)
theorem Rel.flat {w w' : World} {I I' : Nat → Prop} {av : AV} {v : Value} (h : Rel w I av v) (hf : av.Flat) : Rel w' I' av v := by
  induction h with
  | junk v => exact .junk v
  | val v => exact .val v
  | nilsl => exact .nilsl
  | ro0 A c => exact .ro0 A c
  | ro xs b off c m f hb hm hcp hx hcell hrel ih => 
    cases hf
    exact .ro0 _ c
  | roAt cs b off o f hb hcell _ ih => cases hf
  | agg cs vs hl h1 _ ih => cases hf with | agg _ h => exact .agg cs vs hl h1 fun j av hj => ih j av hj (h av (List.mem_of_getElem? hj))
  | tup cs vs hl _ ih => cases hf with | tup _ h => exact .tup cs vs hl fun j av hj => ih j av hj (h av (List.mem_of_getElem? hj))
  | fnv f cs vs hl _ ih => cases hf with | fnv _ _ h => exact .fnv f cs vs hl fun j av hj => ih j av hj (h av (List.mem_of_getElem? hj))

/-- A slice that only one slot has. -/
def OwnAt (w : World) (base : Nat) (I : Nat → Prop) (e m : Nat) (xs : List (List AV)) (v : Value) (bo : Option Nat) : Prop :=
  ∃ cells : List Value, w.ownsRow base e m v xs.length cells ∧ (∀ x ∈ xs, x.length = m) ∧ 0 < m ∧ v.ownBlock = bo ∧ (∀ u ∈ cells, u.oneCell' = true) ∧ xs.length ≤ maxLen ∧ ∀ j av, xs.flatten[j]? = some av → Rel w I av (cells.getD j undef)
/-- A variable that the frame has made. -/
def BoxAt (w : World) (base : Nat) (I : Nat → Prop) (cs : List AV) (v : Value) (bo : Option Nat) : Prop :=
  ∃ g t cur, bo = some g ∧ base ≤ g ∧ v = .pointer (some ⟨g, 0, none⟩) ∧ Blk w g t cur ∧ cur.size = cs.length ∧ (∀ u ∈ cur.toList, u.oneCell' = true) ∧ ∀ j av, cs[j]? = some av → Rel w I av (cur.getD j undef)

theorem OwnAt.mono {w w' : World} {base : Nat} {I I' : Nat → Prop} {e m : Nat} {xs : List (List AV)} {v : Value} {bo : Option Nat} (hI : ∀ b, I b → I' b) (hc : ∀ b o, I b → w'.cell? ⟨b, o, none⟩ = w.cell? ⟨b, o, none⟩)
    (hw : ∀ g, bo = some g → w'.heap[g]? = w.heap[g]?) (h : OwnAt w base I e m xs v bo) : OwnAt w' base I' e m xs v bo := by
  obtain ⟨cells, ⟨h0, h1⟩, h2, h3, h4, h5, h6, h7⟩ := h
  refine ⟨cells, ⟨h0, ?_⟩, h2, h3, h4, h5, h6, fun j av hj => (h7 j av hj).mono hI hc⟩
  rcases h1 with h1 | ⟨g, cap, cur, hv, hg, hh, r⟩
  · exact .inl h1
  · refine .inr ⟨g, cap, cur, hv, hg, ?_, r⟩
    rw [hw g (by rw [← h4, hv]; rfl)]; exact hh
theorem BoxAt.mono {w w' : World} {base : Nat} {I I' : Nat → Prop} {cs : List AV} {v : Value} {bo : Option Nat} (hI : ∀ b, I b → I' b) (hc : ∀ b o, I b → w'.cell? ⟨b, o, none⟩ = w.cell? ⟨b, o, none⟩)
    (hw : ∀ g, bo = some g → w'.heap[g]? = w.heap[g]?) (h : BoxAt w base I cs v bo) : BoxAt w' base I' cs v bo := by
  obtain ⟨g, t, cur, h1, h2, h3, h4, h5, h6, h7⟩ := h
  exact ⟨g, t, cur, h1, h2, h3, (hw g h1).trans h4, h5, h6, fun j av hj => (h7 j av hj).mono hI hc⟩

abbrev ASt := Nat → AV
def ASt.put (st : ASt) (d : Nat) (av : AV) : ASt := fun k => if k = d then av else st k
theorem put_same (st : ASt) (d : Nat) (av : AV) : st.put d av d = av := by simp [ASt.put]
theorem put_ne {st : ASt} {d k : Nat} {av : AV} (h : k ≠ d) : st.put d av k = st k := by simp [ASt.put, h]
theorem put_at (st : ASt) (d k : Nat) (av : AV) : st.put d av k = if k = d then av else st k := rfl

abbrev Bt := Nat → Option Nat
/-- The listed tables: blocks of package-level variables, and what their cells hold. -/
def tabs : List (Nat × Array Value) := []
def TabB (w : World) (base : Nat) : Prop := ∀ g cs, (g, cs) ∈ tabs → g < base ∧ ∃ t r, w.heap[g]? = some (.cells cs t r)
theorem TabB.mono {w : World} {a b : Nat} (h : TabB w a) (hab : a ≤ b) : TabB w b := fun g cs hg => ⟨Nat.lt_of_lt_of_le (h g cs hg).1 hab, (h g cs hg).2⟩
/-- Where a frame begins: the world, from where on blocks are new, the block that it was handed over, and what slot 0 keeps; the tables lie below. -/
structure Ent where
  w : World
  base : Nat
  bo : Option Nat
  pin : Option Value
  tab : TabB w base
/-- The blocks that a frame may have as its own. -/
def Ent.N (e : Ent) (b : Nat) : Prop := e.bo = some b ∨ e.w.heap.size ≤ b
/-- The slots that are written: below hi, from lo on. -/
structure Lim where
  hi : Nat
  lo : Nat
def Lim.In (n : Lim) (d : Nat) : Prop := d < n.hi ∧ n.lo ≤ d
instance (n : Lim) (d : Nat) : Decidable (n.In d) := inferInstanceAs (Decidable (d < n.hi ∧ n.lo ≤ d))
/-- Nothing that was there has turned, but for block bo. -/
structure Past (w w' : World) (bo : Option Nat) : Prop where
  os : w'.os = w.os
  tape : w'.tape = w.tape
  output : w'.output = w.output
  size : w.heap.size ≤ w'.heap.size
  block : ∀ b, b < w.heap.size → bo ≠ some b → w'.heap[b]? = w.heap[b]?
theorem Past.refl (w : World) (bo : Option Nat) : Past w w bo := ⟨rfl, rfl, rfl, Nat.le_refl _, fun _ _ _ => rfl⟩
theorem Past.next {w w' w2 : World} {bo : Option Nat} (h : Past w w' bo) (hb : Below w'.heap.size w' w2) : Past w w2 bo :=
  ⟨hb.os.trans h.os, hb.tape.trans h.tape, hb.output.trans h.output, Nat.le_trans h.size hb.size, fun b h1 h2 => (hb.block b (Nat.lt_of_lt_of_le h1 h.size)).trans (h.block b h1 h2)⟩
theorem Past.below {w w' : World} (h : Past w w' none) : Below w.heap.size w w' := ⟨h.os, h.tape, h.output, h.size, fun b hb => h.block b hb (by simp)⟩
/-- The blocks that are written by nobody. -/
def Imm (S : Nat → Prop) (e : Ent) (w : World) (β : Bt) (b : Nat) : Prop := S b ∨ (e.N b ∧ b < w.heap.size ∧ ∀ k, β k ≠ some b)

/-- Slot k. -/
def SlotRel (w : World) (base : Nat) (I : Nat → Prop) (st : ASt) (β : Bt) (tm : Array Value) (av : AV) (k : Nat) : Prop :=
  match av with
  | .own e m xs => OwnAt w base I e m xs (tm.getD k undef) (β k)
  | .box cs => BoxAt w base I cs (tm.getD k undef) (β k)
  | .held e m xs v => OwnAt w base I e m xs v (β k)
  | .alias d => (∃ e m xs, st d = .own e m xs) ∧ tm.getD k undef = tm.getD d undef
  | .ref d o => (∃ cs, st d = .box cs) ∧ ∃ g, β d = some g ∧ tm.getD k undef = .pointer (some ⟨g, o, none⟩)
  | .into d i o => ∃ e m xs g, st d = .own e m xs ∧ i < xs.length ∧ β d = some g ∧ tm.getD k undef = .pointer (some ⟨g, i * m + o, none⟩)
  | .clo f ds => (∀ d ∈ ds, ∃ cs, st d = .box cs) ∧ tm.getD k undef = .func (.func f) #[] (ds.map fun d => tm.getD d undef).toArray
  | av => Rel w I av (tm.getD k undef)

/-- A frame, and what its slots hold. -/
structure FR (w0 : Ent) (S : Nat → Prop) (n : Lim) (st : ASt) (β : Bt) (a : Act) (w : World) : Prop where
  below : Past w0.w w w0.bo
  base : w0.base ≤ w0.w.heap.size
  given : ∀ g, w0.bo = some g → w0.base ≤ g ∧ g < w0.w.heap.size
  old : ∀ b, S b → b < w0.w.heap.size ∧ w0.bo ≠ some b
  size : a.tmps.size = n.hi
  pin : ∀ v, w0.pin = some v → 0 < n.lo ∧ a.tmps.getD 0 undef = v
  defers : a.defers = []
  home : ∀ k g, β k = some g → (st k).isHome = true ∧ w0.N g ∧ g < w.heap.size
  inj : ∀ i j g, β i = some g → β j = some g → i = j
  slot : ∀ k, SlotRel w w0.base (Imm S w0 w β) st β a.tmps (st k) k

section
variable {w0 : Ent} {w w' : World} {S : Nat → Prop} {n : Lim} {st : ASt} {β : Bt} {a : Act}
theorem OwnAt.one {w : World} {base : Nat} {I : Nat → Prop} {e m : Nat} {xs : List (List AV)} {v : Value} {bo : Option Nat} (h : OwnAt w base I e m xs v bo) : v.oneCell' = true := by
  obtain ⟨cells, hown, _⟩ := h
  rcases hown.2 with ⟨hv, _⟩ | ⟨g', cap, cur, hv, _⟩ <;> rw [hv] <;> rfl
/-- What has a name is one cell. -/
theorem FR.named (h : FR w0 S n st β a w) {g e m : Nat} {xs : List (List AV)} {v : Value} (hg : st g = .held e m xs v) : v.oneCell' = true := by
  have hs := h.slot g
  rw [hg] at hs
  exact OwnAt.one (bo := β g) hs
theorem FR.lt (h : FR w0 S n st β a w) {b : Nat} (hb : Imm S w0 w β b) : b < w.heap.size := by
  rcases hb with hb | hb
  · have := (h.old b hb).1; have := h.below.size; omega
  · exact hb.2.1
theorem FR.apart (h : FR w0 S n st β a w) {b : Nat} (h1 : S b) (h2 : w0.N b) : False := by
  obtain ⟨h3, h4⟩ := h.old b h1
  rcases h2 with h2 | h2
  · exact h4 h2
  · omega
theorem FR.new (h : FR w0 S n st β a w) {b : Nat} (hb : w.heap.size ≤ b) : w0.N b := .inr (Nat.le_trans h.below.size hb)
theorem FR.tabs (h : FR w0 S n st β a w) : TabB w w0.base := fun g cs hg => by
  obtain ⟨h1, t, r, h2⟩ := w0.tab g cs hg
  refine ⟨h1, t, r, ?_⟩
  rw [h.below.block g (Nat.lt_of_lt_of_le h1 h.base) (fun e => by have := (h.given g e).1; omega)]
  exact h2
theorem FR.bases (h : FR w0 S n st β a w) : w0.base ≤ w.heap.size := Nat.le_trans h.base h.below.size
theorem FR.from (h : FR w0 S n st β a w) {b : Nat} (hb : w0.N b) : w0.base ≤ b := by
  rcases hb with hb | hb
  · exact (h.given b hb).1
  · exact Nat.le_trans h.base hb
theorem Imm.grow (hw : w.heap.size ≤ w'.heap.size) {b : Nat} (hb : Imm S w0 w β b) : Imm S w0 w' β b := by
  rcases hb with hb | hb
  · exact .inl hb
  · exact .inr ⟨hb.1, by omega, hb.2.2⟩
theorem SlotRel.mono {base : Nat} {I I' : Nat → Prop} {tm : Array Value} {av : AV} {k : Nat} (hI : ∀ b, I b → I' b) (hc : ∀ b o, I b → w'.cell? ⟨b, o, none⟩ = w.cell? ⟨b, o, none⟩)
    (hw : ∀ g, β k = some g → w'.heap[g]? = w.heap[g]?) (h : SlotRel w base I st β tm av k) : SlotRel w' base I' st β tm av k := by
  cases av <;> simp only [SlotRel] at h ⊢
  case own => exact h.mono hI hc hw
  case box => exact h.mono hI hc hw
  case held => exact h.mono hI hc hw
  all_goals first | exact h | exact h.mono hI hc
/-- A world in which nothing old has turned. -/
theorem FR.world (h : FR w0 S n st β a w) (hb : Below w.heap.size w w') : FR w0 S n st β a w' where
  below := h.below.next hb
  base := h.base
  given := h.given
  old := h.old
  size := h.size
  pin := h.pin
  defers := h.defers
  home := fun k g hg => by obtain ⟨h1, h2, h3⟩ := h.home k g hg; exact ⟨h1, h2, Nat.lt_of_lt_of_le h3 hb.size⟩
  inj := h.inj
  slot := fun k => (h.slot k).mono (fun b hb' => hb'.grow hb.size) (fun b o hi => hb.cell (p := ⟨b, o, none⟩) (h.lt hi)) (fun g hg => hb.block g (h.home k g hg).2.2)

theorem getD_set_ne' {tm : Array Value} {d k : Nat} {u : Value} (h : k ≠ d) : (tm.setIfInBounds d u).getD k undef = tm.getD k undef := by
  simp [Array.getD_eq_getD_getElem?, Ne.symm h]
theorem getD_set_same' {tm : Array Value} {d : Nat} {u : Value} (h : d < tm.size) : (tm.setIfInBounds d u).getD d undef = u := by
  simp [Array.getD_eq_getD_getElem?, h]

/-- The other slots, where slot d, which nobody refers to, gets something. -/
theorem SlotRel.put {base : Nat} {I : Nat → Prop} {tm : Array Value} {k d : Nat} {av : AV} {u : Value} (hkd : k ≠ d) (hd : (st d).isHome = false) {x : AV} (h : SlotRel w base I st β tm x k) :
    SlotRel w base I (st.put d av) β (tm.setIfInBounds d u) x k := by
  have nd : ∀ {t : Nat}, (st t).isHome = true → t ≠ d := fun ht e => by rw [e, hd] at ht; cases ht
  cases x <;> simp only [SlotRel, getD_set_ne' hkd] at h ⊢
  case alias t =>
    obtain ⟨⟨e, m, xs, h1⟩, h2⟩ := h
    have ht : t ≠ d := nd (by rw [h1]; rfl)
    exact ⟨⟨e, m, xs, by rw [put_ne ht]; exact h1⟩, by rw [getD_set_ne' ht]; exact h2⟩
  case ref t o =>
    obtain ⟨⟨cs, h1⟩, h2⟩ := h
    have ht : t ≠ d := nd (by rw [h1]; rfl)
    exact ⟨⟨cs, by rw [put_ne ht]; exact h1⟩, h2⟩
  case into t i o =>
    obtain ⟨e, m, xs, g, h1, h2⟩ := h
    have ht : t ≠ d := nd (by rw [h1]; rfl)
    exact ⟨e, m, xs, g, by rw [put_ne ht]; exact h1, h2⟩
  case clo f ds =>
    obtain ⟨h1, h2⟩ := h
    have ht : ∀ t ∈ ds, t ≠ d := fun t ht => by obtain ⟨cs, hc⟩ := h1 t ht; exact nd (by rw [hc]; rfl)
    refine ⟨fun t hm => by obtain ⟨cs, hc⟩ := h1 t hm; exact ⟨cs, by rw [put_ne (ht t hm)]; exact hc⟩, h2.trans ?_⟩
    congr 2
    exact List.map_congr_left fun t hm => (getD_set_ne' (ht t hm)).symm
  all_goals exact h

/-- Slot d gets something that is no home. -/
theorem FR.put (h : FR w0 S n st β a w) {d : Nat} {av : AV} {u : Value} (hd : (st d).isHome = false) (hn : n.In d)
    (hnew : SlotRel w w0.base (Imm S w0 w β) (st.put d av) β (a.tmps.setIfInBounds d u) av d) : FR w0 S n (st.put d av) β (a.put (some d) u) w where
  below := h.below
  base := h.base
  given := h.given
  old := h.old
  size := by simp [Act.put, h.size]
  pin := fun v hv => by obtain ⟨h1, h2⟩ := h.pin v hv; exact ⟨h1, by rw [← h2]; exact getD_set_ne' (by have := hn.2; omega)⟩
  defers := h.defers
  home := fun k g hg => by
    obtain ⟨h1, h2⟩ := h.home k g hg
    have hk : k ≠ d := fun e => by rw [e, hd] at h1; cases h1
    rw [put_ne hk]; exact ⟨h1, h2⟩
  inj := h.inj
  slot := fun k => by
    by_cases hk : k = d
    · subst hk; rw [put_same]; exact hnew
    · rw [put_ne hk]; exact (h.slot k).put hk hd
/-- Something that memory does not bear on, or that nobody writes. -/
theorem FR.put_imm (h : FR w0 S n st β a w) {d : Nat} {av : AV} {u : Value} (hd : (st d).isHome = false) (hn : n.In d) (hr : Rel w (Imm S w0 w β) av u) : FR w0 S n (st.put d av) β (a.put (some d) u) w := by
  have hs : (a.tmps.setIfInBounds d u).getD d undef = u := getD_set_same' (by rw [h.size]; exact hn.1)
  have hr' : Rel w (Imm S w0 w β) av ((a.tmps.setIfInBounds d u).getD d undef) := by rw [hs]; exact hr
  cases hr <;> exact h.put hd hn hr'

/-- Slot d gets something of its own, in a block that is new or in none. -/
theorem FR.put_home (h : FR w0 S n st β a w) (hb : Below w.heap.size w w') {d : Nat} {av : AV} {u : Value} {bo : Option Nat} (hd : (st d).isHome = false) (hn : n.In d) (hav : av.isHome = true)
    (hbo : ∀ g, bo = some g → w.heap.size ≤ g ∧ g < w'.heap.size)
    (hnew : ∀ I : Nat → Prop, (∀ b, Imm S w0 w β b → I b) → (∀ b, w.heap.size ≤ b → b < w'.heap.size → bo ≠ some b → I b) → SlotRel w' w0.base I (st.put d av) (fun k => if k = d then bo else β k) (a.tmps.setIfInBounds d u) av d) :
    FR w0 S n (st.put d av) (fun k => if k = d then bo else β k) (a.put (some d) u) w' := by
  have hβd : β d = none := by
    cases hq : β d with
    | none => rfl
    | some g => have := (h.home d g hq).1; rw [hd] at this; cases this
  have hI : ∀ b, Imm S w0 w β b → Imm S w0 w' (fun k => if k = d then bo else β k) b := fun b hi => by
    have hlt := h.lt hi
    rcases hi with hi | hi
    · exact .inl hi
    · refine .inr ⟨hi.1, Nat.lt_of_lt_of_le hi.2.1 hb.size, fun k => ?_⟩
      by_cases hk : k = d
      · simp only [hk, if_pos]
        intro e; have := (hbo b e).1; omega
      · simp only [hk, if_false]; exact hi.2.2 k
  refine ⟨h.below.next hb, h.base, h.given, h.old, by simp [Act.put, h.size], fun v hv => by obtain ⟨h1, h2⟩ := h.pin v hv; exact ⟨h1, by rw [← h2]; exact getD_set_ne' (by have := hn.2; omega)⟩, h.defers, ?_, ?_, ?_⟩
  · intro k g hg
    by_cases hk : k = d
    · subst hk
      simp only [if_pos] at hg
      obtain ⟨h1, h2⟩ := hbo g hg
      exact ⟨by rw [put_same]; exact hav, h.new h1, h2⟩
    · simp only [hk, if_false] at hg
      obtain ⟨h1, h2, h3⟩ := h.home k g hg
      exact ⟨by rw [put_ne hk]; exact h1, h2, Nat.lt_of_lt_of_le h3 hb.size⟩
  · intro i j g hi hj
    by_cases h1 : i = d <;> by_cases h2 : j = d <;> simp only [h1, h2, if_pos, if_false] at hi hj ⊢
    · have := (hbo g hi).1; have := (h.home j g hj).2.2; omega
    · have := (hbo g hj).1; have := (h.home i g hi).2.2; omega
    · exact h.inj i j g hi hj
  · intro k
    by_cases hk : k = d
    · subst hk
      rw [put_same]
      refine hnew _ hI fun b h1 h2 h3 => .inr ⟨h.new h1, h2, fun j => ?_⟩
      by_cases hj : j = k
      · simp only [hj, if_pos]; exact h3
      · simp only [hj, if_false]; intro e; have := (h.home j b e).2.2; omega
    · rw [put_ne hk]
      have h1 := ((h.slot k).mono (w' := w') hI (fun b o hi => hb.cell (p := ⟨b, o, none⟩) (h.lt hi)) (fun g hg => hb.block g (h.home k g hg).2.2)).put (av := av) (u := u) hk hd
      revert h1
      cases hx : st k <;> simp only [SlotRel, hk, if_false] <;> intro h1
      case ref t o =>
        have ht : t ≠ d := fun e => by obtain ⟨⟨cs, hc⟩, g, hg, _⟩ := h1; rw [e, hβd] at hg; cases hg
        obtain ⟨h2, g, hg, h3⟩ := h1
        exact ⟨h2, g, by simp only [ht, if_false]; exact hg, h3⟩
      case into t i o =>
        have ht : t ≠ d := fun e => by obtain ⟨_, _, _, g, _, _, hg, _⟩ := h1; rw [e, hβd] at hg; cases hg
        obtain ⟨e, m, xs, g, h2, h3, hg, h4⟩ := h1
        exact ⟨e, m, xs, g, h2, h3, by simp only [ht, if_false]; exact hg, h4⟩
      all_goals exact h1
end
end Go.Proofs.Ytpecmhdepggnoaa
