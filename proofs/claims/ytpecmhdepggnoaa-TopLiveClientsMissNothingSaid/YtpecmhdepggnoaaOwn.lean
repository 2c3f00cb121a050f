/- Rows that a call makes itself: small laws beside the kit's 'ownsRow'; append of one element as one step. -/
import Derived.Test.YtpecmhdepggnoaaBase
namespace Go.Proofs.Ytpecmhdepggnoaa
open Go.RowKit

section
variable {w : World} {base : Nat} {e : TypeId} {size : Nat} {v : Value} {n : Nat} {xs : List Value}
theorem own_mono {base' : Nat} (h : w.ownsRow base e size v n xs) (hb : base' ≤ base) : w.ownsRow base' e size v n xs := by
  refine ⟨h.1, ?_⟩
  rcases h.2 with h2 | ⟨g, cap, cur, hv, hg, r⟩
  · exact .inl h2
  · exact .inr ⟨g, cap, cur, hv, by omega, r⟩
theorem own_val (h : w.ownsRow base e size v n xs) : ∃ A c, v = .slice A n c := by
  rcases h.2 with ⟨rfl, rfl⟩ | ⟨g, cap, cur, rfl, _⟩
  · exact ⟨_, _, rfl⟩
  · exact ⟨_, _, rfl⟩
theorem own_rd {A : Option Addr} {c : Nat} (h : w.ownsRow base e size (.slice A n c) n xs) : Rd w w.heap.size A xs := by
  intro hn
  rcases h.2 with ⟨_, h0⟩ | ⟨g, cap, cur, hv, hb, hg, r⟩
  · have := h.1; rw [h0] at this; exact absurd (List.eq_nil_of_length_eq_zero (by simpa using this)) hn
  · have hA : A = some ⟨g, 0, none⟩ := by injection hv
    subst hA
    refine ⟨g, 0, rfl, (Array.getElem?_eq_some_iff.1 hg).1, fun j u hu => ?_⟩
    have hc := h.cells (g := g) rfl j u hu
    have hadd : (⟨g, 0, none⟩ : Addr).add j = ⟨g, 0 + j, none⟩ := by unfold Addr.add; split <;> simp_all
    rw [← hadd]; exact hc
theorem own_below {w' : World} (h : w.ownsRow base e size v n xs) (hb : Below w.heap.size w w') : w'.ownsRow base e size v n xs := by
  refine ⟨h.1, ?_⟩
  rcases h.2 with h2 | ⟨g, cap, cur, hv, hg, hh, r⟩
  · exact .inl h2
  · exact .inr ⟨g, cap, cur, hv, hg, by rw [hb.block g (Array.getElem?_eq_some_iff.1 hh).1]; exact hh, r⟩
theorem own_grow (h : w.ownsRow base e size v n xs) (x : World) : (grow w x).ownsRow base e size v n xs := own_below h (grow_below w x)
end

/-! ### A world in which blocks from lo up to, without, hi may have turned -/
structure But (lo hi : Nat) (w w' : World) : Prop where
  os : w'.os = w.os
  tape : w'.tape = w.tape
  output : w'.output = w.output
  size : w.heap.size ≤ w'.heap.size
  block : ∀ k, k < w.heap.size → (k < lo ∨ hi ≤ k) → w'.heap[k]? = w.heap[k]?
theorem But.refl (lo hi : Nat) (w : World) : But lo hi w w := ⟨rfl, rfl, rfl, Nat.le_refl _, fun _ _ _ => rfl⟩
theorem But.below {lo hi : Nat} {w w' : World} (h : But lo hi w w') (hlo : lo ≤ w.heap.size) : Below lo w w' := ⟨h.os, h.tape, h.output, h.size, fun k hk => h.block k (by omega) (.inl hk)⟩
open Classical in
/-- x, if it is w but for the blocks from lo up to hi; else w. -/
noncomputable def growBut (lo hi : Nat) (w x : World) : World := if But lo hi w x then x else w
theorem growBut_but (lo hi : Nat) (w x : World) : But lo hi w (growBut lo hi w x) := by
  unfold growBut
  split
  · assumption
  · exact But.refl _ _ _
theorem growBut_of {lo hi : Nat} {w w' : World} (h : But lo hi w w') : w' = growBut lo hi w w' := by unfold growBut; rw [if_pos h]
theorem size_growBut (lo hi : Nat) (w x : World) : w.heap.size ≤ (growBut lo hi w x).heap.size := (growBut_but lo hi w x).size
noncomputable def newCellB (lo hi : Nat) (w x : World) (p : Addr) : Option Value := (growBut lo hi w x).cell? p
noncomputable def newFrozenB (lo hi : Nat) (w x : World) (p : Addr) : Bool := (growBut lo hi w x).frozen? p
theorem cell_growBut (lo hi : Nat) (w x : World) (b o : Nat) (s : Option _) : (growBut lo hi w x).cell? ⟨b, o, s⟩ = if b < w.heap.size ∧ (b < lo ∨ hi ≤ b) then w.cell? ⟨b, o, s⟩ else newCellB lo hi w x ⟨b, o, s⟩ := by
  split
  · rename_i h; exact World.cell?_of_block (a := ⟨b, o, s⟩) ((growBut_but lo hi w x).block b h.1 h.2)
  · rfl
theorem frozen_growBut (lo hi : Nat) (w x : World) (b o : Nat) (s : Option _) : (growBut lo hi w x).frozen? ⟨b, o, s⟩ = if b < w.heap.size ∧ (b < lo ∨ hi ≤ b) then w.frozen? ⟨b, o, s⟩ else newFrozenB lo hi w x ⟨b, o, s⟩ := by
  split
  · rename_i h; exact World.frozen?_of_block (a := ⟨b, o, s⟩) ((growBut_but lo hi w x).block b h.1 h.2)
  · rfl

theorem growBut_below (lo hi : Nat) (w x : World) (h : lo ≤ w.heap.size) : Below lo w (growBut lo hi w x) := (growBut_but lo hi w x).below h

/-- Where the row of a slice of the call's own lies. -/
theorem own_lt {w : World} {base : Nat} {e : TypeId} {size : Nat} {A : Option Addr} {n c : Nat} {xs : List Value} (h : w.ownsRow base e size (.slice A n c) n xs) :
    ∀ b, (Value.slice A n c).ownBlock = some b → base ≤ b ∧ b < w.heap.size := h.lt

theorem new_cells (w : World) (t : TypeId) (cs : List Value) : ∀ (j : Nat) (u : Value), cs[j]? = some u → (w.alloc (.cells cs.toArray t)).cell? ⟨w.heap.size, j, none⟩ = some u := by
  intro j u hu
  rw [World.cell?_alloc_new]
  simpa using hu
theorem one_all (l : List Value) (h : l.all Value.oneCell' = true) : ∀ u ∈ l, u.oneCell' = true := fun u hu => List.all_eq_true.1 h u hu

/-! ### A block that is known whole -/
def Blk (w : World) (g : Nat) (t : TypeId) (cs : Array Value) : Prop := w.heap[g]? = some (.cells cs t (0, 0))
section
variable {w w' : World} {g : Nat} {t : TypeId} {cs : Array Value}
theorem Blk.lt (h : Blk w g t cs) : g < w.heap.size := (Array.getElem?_eq_some_iff.1 h).1
theorem Blk.cell (h : Blk w g t cs) (i : Nat) (v : Value) (hv : cs[i]? = some v) : w.cell? ⟨g, i, none⟩ = some v := by
  unfold Blk at h; simp [World.cell?, h, hv]
theorem Blk.frozen (h : Blk w g t cs) (i : Nat) : w.frozen? ⟨g, i, none⟩ = false := by
  unfold Blk at h; simp [World.frozen?, h]
theorem Blk.new (w : World) (t : TypeId) (cs : Array Value) : Blk (w.alloc (.cells cs t)) w.heap.size t cs := heap_alloc_new w _
theorem Blk.new' (w : World) (t : TypeId) (cs : Array Value) {g : Nat} (h : w.heap.size = g) : Blk (w.alloc (.cells cs t)) g t cs := h ▸ heap_alloc_new w _
theorem Blk.drew (h : Blk w g t cs) : Blk w.drew g t cs := h
theorem Blk.alloc (h : Blk w g t cs) (o : Obj) : Blk (w.alloc o) g t cs := (Below.heap_alloc w o g h.lt).trans h
theorem Blk.set_ (h : Blk w g t cs) (i : Nat) (u : Value) : Blk (w.setCell ⟨g, i, none⟩ u) g t (cs.setIfInBounds i u) := by
  unfold Blk at h ⊢
  simp [World.setCell, Array.getElem?_modify, h]
theorem Blk.far (h : Blk w g t cs) {p : Addr} (hp : g ≠ p.block) (u : Value) : Blk (w.setCell p u) g t cs := (Below.heap_setCell w p u g hp).trans h
theorem Blk.below {B : Nat} (h : Blk w g t cs) (hb : Below B w w') (hg : g < B) : Blk w' g t cs := (hb.block g hg).trans h
theorem Blk.grow (h : Blk w g t cs) (x : World) : Blk (grow w x) g t cs := h.below (grow_below w x) h.lt
theorem Blk.but {lo hi : Nat} (h : Blk w g t cs) (hg : g < lo ∨ hi ≤ g) (x : World) : Blk (growBut lo hi w x) g t cs := ((growBut_but lo hi w x).block g h.lt hg).trans h
end

/-- append(out, x), out a row of the call's own or nil, x one element that lies in a block of its own. -/
theorem wpList_append1 {P : Program} {ops : Array Oper} {rest : List Oper} {o : Oper} {a : Act} {Q : Exit → Act → World → Prop} {w : World} (hgd : o.guard = none) (s x : Operand) (t : TypeId)
    (ho : o.op = .call { callee := .builtin .append, args := #[s, x], argTypes := #[t, t] })
    (base : Nat) (e : TypeId) (i : TypeInfo) (z : Value) (size bytes : Nat) (ht : P.underlying t = some (.slice e)) (hi : P.info? e = some i) (hz : i.zero = some z)
    (hsize : i.size = size) (hby : i.bytes = bytes) (hzs : z.cells.size = size) (hsz : 0 < size)
    (A : Option Addr) (n c : Nat) (xs : List Value) (hs : a.eval s = .slice A n c) (hown : w.ownsRow base e size (.slice A n c) n xs)
    (g : Nat) (m c1 : Nat) (news : List Value) (hx : a.eval x = .slice (some ⟨g, 0, none⟩) m c1) (hl : news.length = m * size) (hcells : ∀ j u, news[j]? = some u → w.cell? ⟨g, j, none⟩ = some u) (h1 : ∀ u ∈ news, u.oneCell' = true)
    (h63 : n + m ≤ maxLen) (hbytes : (n + m) * bytes ≤ 140737488355328) (hbase : base ≤ w.heap.size)
    (top : Nat) (htop : ∀ b, (Value.slice A n c).ownBlock = some b → b < top)
    (h : ∀ A' c' y, (growBut base top w y).ownsRow base e size (.slice A' (n + m) c') (n + m) (xs ++ news) → wpList P ops Q rest (a.put o.dst (.slice A' (n + m) c')) (growBut base top w y)) : wpList P ops Q (o :: rest) a w := by
  refine wpList_append_own _ hgd s x t ho base e i z size bytes ht hi hz hsize hby hzs hsz _ n xs hs hown ⟨g, 0, none⟩ m c1 news hx hl ?_ h1 h63 hbytes hbase ?_
  · intro j u hu
    have hadd : (⟨g, 0, none⟩ : Addr).add j = ⟨g, j, none⟩ := by unfold Addr.add; split <;> simp_all
    rw [hadd]; exact hcells j u hu
  · intro v' w' hown' hg _
    obtain ⟨A', c', rfl⟩ := own_val hown'
    have hb : But base top w w' := ⟨hg.os, hg.tape, hg.output, hg.size, fun k hk hlh => hg.block k hk (fun e => by
      have h1 := hown.lt k e.symm
      have h2 := htop k e.symm
      omega)⟩
    have hw := growBut_of hb
    have := h A' c' w' (by rw [← hw]; exact hown')
    rw [← hw] at this
    exact this
end Go.Proofs.Ytpecmhdepggnoaa
