/- Words for slices that are read, and for worlds that have grown, whatever the seat: small lemmas that the walks of this claim use. -/
import Derived.Test.YtpecmhdepggnoaaRows
import Derived.WalkKit
import Derived.WalkSpells
import Derived.WalkLawsBesides
import Derived.BigQuiet
import Derived.Deep.QuietTactic
import Derived.Deep.Draws
import Derived.Lib.Hide
namespace Go.Proofs.Ytpecmhdepggnoaa
open Go.RowKit

/-! ### A world that has grown: nothing that was there has turned -/
open Classical in
/-- x, if it is w with more blocks; else w. -/
noncomputable def grow (w x : World) : World := if Below w.heap.size w x then x else w
theorem grow_below (w x : World) : Below w.heap.size w (grow w x) := by
  unfold grow
  split
  · assumption
  · exact Below.refl _ _
theorem grow_of {w w' : World} (h : Below w.heap.size w w') : w' = grow w w' := by unfold grow; rw [if_pos h]
theorem grow_self (w : World) : w = grow w w := grow_of (Below.refl _ _)
theorem size_grow (w x : World) : w.heap.size ≤ (grow w x).heap.size := (grow_below w x).size
/-- What a new block of a grown world holds. -/
noncomputable def newCell (w x : World) (p : Addr) : Option Value := (grow w x).cell? p
noncomputable def newFrozen (w x : World) (p : Addr) : Bool := (grow w x).frozen? p
theorem cell_grow (w x : World) (b o : Nat) (s : Option _) : (grow w x).cell? ⟨b, o, s⟩ = if b < w.heap.size then w.cell? ⟨b, o, s⟩ else newCell w x ⟨b, o, s⟩ := by
  split
  · rename_i h; exact (grow_below w x).cell (p := ⟨b, o, s⟩) h
  · rfl
theorem frozen_grow (w x : World) (b o : Nat) (s : Option _) : (grow w x).frozen? ⟨b, o, s⟩ = if b < w.heap.size then w.frozen? ⟨b, o, s⟩ else newFrozen w x ⟨b, o, s⟩ := by
  split
  · rename_i h; exact (grow_below w x).frozen (p := ⟨b, o, s⟩) h
  · rfl
theorem below_drewN {B : Nat} {a w : World} (h : Below B a w) (n : Nat) : Below B a (w.drewN n) := ⟨h.os, h.tape, h.output, h.size, h.block⟩
theorem grow_trans {w x w' : World} (h : Below (grow w x).heap.size (grow w x) w') : ∃ y, w' = grow w y :=
  ⟨w', grow_of ((grow_below w x).trans (h.mono (size_grow w x)))⟩

section
variable {a w : World}
theorem bl_drew (h : Below a.heap.size a w) : Below a.heap.size a w.drew := h.drew
theorem bl_drewN (h : Below a.heap.size a w) (n : Nat) : Below a.heap.size a (w.drewN n) := below_drewN h n
theorem bl_alloc (h : Below a.heap.size a w) (o : Obj) : Below a.heap.size a (w.alloc o) := h.alloc h.size o
theorem bl_grow (h : Below a.heap.size a w) (x : World) : Below a.heap.size a (grow w x) := h.trans ((grow_below w x).mono h.size)
theorem bl_set {p : Addr} (h : Below a.heap.size a w) (hp : a.heap.size ≤ p.block) (u : Value) : Below a.heap.size a (w.setCell p u) := h.setCell hp u
theorem bl_trans {b : World} (h : Below a.heap.size a w) (k : Below w.heap.size w b) : Below a.heap.size a b := h.trans (k.mono h.size)
/-- A cell that was there. -/
theorem keepc {p : Addr} {v : Value} (hb : Below a.heap.size a w) (hp : p.block < a.heap.size) (h : a.cell? p = some v) : w.cell? p = some v := (hb.cell hp).trans h
end

/-- What a call leaves: the value v, in a world that has grown. -/
def Gives (v : Value) (w : World) (e : Ending) (w' : World) : Prop := e = .returned v ∧ Below w.heap.size w w'

section
variable {P : Program} {f : FuncId} {args : Array Value} {w x : World} {v : Value}
theorem call_same (h : Calls P f args (grow w x) fun e w' => e = .returned v ∧ grow w x = w') : Calls P f args (grow w x) fun e w'' => e = .returned v ∧ ∃ y, w'' = grow w y :=
  h.mono fun _ _ ⟨he, hw⟩ => ⟨he, x, hw.symm⟩
theorem call_gives (h : Calls P f args (grow w x) (Gives v (grow w x))) : Calls P f args (grow w x) fun e w'' => e = .returned v ∧ ∃ y, w'' = grow w y :=
  h.mono fun _ _ ⟨he, hw⟩ => ⟨he, grow_trans hw⟩
theorem wp_region_grow {id : Nat} {Q : Exit → Act → World → Prop} {a : Act} {l : List Oper} (hm : P.follows .mixedOrders = true) (hB : Region.lexB .any l.toArray = true)
    (h : wpQuiet P l.toArray (fun w' => ∃ y, w' = grow w y) (fun a' => ∀ w', (∃ y, w' = grow w y) → Q .normal a' w') l a) : (Code.region id l.toArray true).wp P Q a w :=
  wp_region_quiet (C := fun w' => ∃ y, w' = grow w y) hm hB ⟨_, grow_of (Below.refl w.heap.size w).drew⟩ (by simpa using h)
/-- The same, where the world has grown already. -/
theorem wp_region_grown {id : Nat} {Q : Exit → Act → World → Prop} {a : Act} {l : List Oper} (hm : P.follows .mixedOrders = true) (hB : Region.lexB .any l.toArray = true)
    (h : wpQuiet P l.toArray (fun w' => ∃ y, w' = grow w y) (fun a' => ∀ w', (∃ y, w' = grow w y) → Q .normal a' w') l a) : (Code.region id l.toArray true).wp P Q a (grow w x) :=
  wp_region_quiet (C := fun w' => ∃ y, w' = grow w y) hm hB ⟨_, grow_of (grow_below w x).drew⟩ (by simpa using h)
end

theorem ret_int {k : IntKind} {a b : Int} (h : a = b) : Ending.returned (.int k a) = .returned (.int k b) := by rw [h]
theorem ret_bool {a b : Bool} (h : a = b) : Ending.returned (.bool a) = .returned (.bool b) := by rw [h]

/-! ### Slices that are read -/
/-- The slice value's address A holds the cells xs, all in a block below B. -/
def Rd (w : World) (B : Nat) (A : Option Addr) (xs : List Value) : Prop :=
  xs ≠ [] → ∃ b off, A = some ⟨b, off, none⟩ ∧ b < B ∧ ∀ j u, xs[j]? = some u → w.cell? ⟨b, off + j, none⟩ = some u

theorem Rd.nil {w : World} {B : Nat} {A : Option Addr} : Rd w B A [] := fun h => absurd rfl h
theorem Rd.keep {w w' : World} {B : Nat} {A : Option Addr} {xs : List Value} (h : Rd w B A xs) (hk : ∀ p : Addr, p.block < B → w'.cell? p = w.cell? p) : Rd w' B A xs := fun hn => by
  obtain ⟨b, off, e, hb, hc⟩ := h hn
  exact ⟨b, off, e, hb, fun j u hu => (hk _ hb).trans (hc j u hu)⟩
theorem Rd.more {w : World} {B B' : Nat} {A : Option Addr} {xs : List Value} (h : Rd w B A xs) (hB : B ≤ B') : Rd w B' A xs := fun hn => by
  obtain ⟨b, off, e, hb, hc⟩ := h hn
  exact ⟨b, off, e, by omega, hc⟩
theorem Rd.below {w w' : World} {B : Nat} {A : Option Addr} {xs : List Value} (h : Rd w B A xs) (hb : Below B w w') : Rd w' B A xs := h.keep fun _ hp => hb.cell hp
/-- From the world in which a call begins to a later one. -/
theorem Rd.go {w w' : World} {A : Option Addr} {xs : List Value} (h : Rd w w.heap.size A xs) (hb : Below w.heap.size w w') : Rd w' w'.heap.size A xs := (h.below hb).more hb.size
theorem Rd.drew {w : World} {B : Nat} {A : Option Addr} {xs : List Value} (h : Rd w B A xs) : Rd w.drew B A xs := h
theorem Rd.drewN {w : World} {B : Nat} {A : Option Addr} {xs : List Value} (h : Rd w B A xs) (k : Nat) : Rd (w.drewN k) B A xs := h
/-- Element k of a slice of one-cell elements. -/
theorem Rd.ints {w : World} {B : Nat} {A : Option Addr} {l : List Int} (h : Rd w B A (l.map (Value.int .i64))) {k : Nat} (hk : k < l.length) :
    ∃ b off, A = some ⟨b, off, none⟩ ∧ b < B ∧ ∀ j x, l[j]? = some x → w.cell? ⟨b, off + j, none⟩ = some (.int .i64 x) := by
  obtain ⟨b, off, e, hb, hc⟩ := h (by intro h0; rw [List.map_eq_nil_iff] at h0; subst h0; simp at hk)
  exact ⟨b, off, e, hb, fun j x hx => hc j _ (by simp [hx])⟩
theorem flatMap_at {α β : Type} (f : α → List β) (n : Nat) (hf : ∀ x, (f x).length = n) : ∀ (l : List α) (k j : Nat) (x : α), l[k]? = some x → j < n → (l.flatMap f)[k * n + j]? = (f x)[j]?
  | [], _, _, _, h, _ => by simp at h
  | y :: l, 0, j, x, h, hj => by
    simp at h; subst h
    rw [List.flatMap_cons, List.getElem?_append_left (by rw [hf]; omega)]; congr 1; omega
  | y :: l, k + 1, j, x, h, hj => by
    rw [List.flatMap_cons, List.getElem?_append_right (by rw [hf, Nat.add_mul]; omega), hf, show (k + 1) * n + j - n = k * n + j by rw [Nat.add_mul]; omega]
    exact flatMap_at f n hf l k j x (by simpa using h) hj
/-- The cells of element k, where each element has n cells. -/
theorem Rd.rows {α : Type} (f : α → List Value) (n : Nat) (hn : 0 < n) (hf : ∀ x, (f x).length = n) {w : World} {B : Nat} {A : Option Addr} {l : List α} (h : Rd w B A (l.flatMap f)) {k : Nat} (hk : k < l.length) :
    ∃ b off, A = some ⟨b, off, none⟩ ∧ b < B ∧ ∀ i j x u, l[i]? = some x → j < n → (f x)[j]? = some u → w.cell? ⟨b, off + (i * n + j), none⟩ = some u := by
  obtain ⟨b, off, e, hb, hc⟩ := h (by
    intro h0
    have h1 := flatMap_at f n hf l k 0 l[k] (List.getElem?_eq_getElem hk) hn
    rw [h0] at h1
    have := hf l[k]
    cases hh : f l[k] with
    | nil => rw [hh] at this; simp at this; omega
    | cons a b => rw [hh] at h1; simp at h1)
  exact ⟨b, off, e, hb, fun i j x u hx hj hu => hc _ u (by rw [flatMap_at f n hf l i j x hx hj, hu])⟩
end Go.Proofs.Ytpecmhdepggnoaa
