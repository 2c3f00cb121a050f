/- The machine on data: what is let go, moved, made, written. The frame's side of it. -/
import Derived.Test.YtpecmhdepggnoaaDmF
namespace Go.Proofs.Ytpecmhdepggnoaa
open Go.RowKit

/-- Slot d's home is gone: who referred to it holds nothing that is known. -/
def AV.kill (d : Nat) : AV → AV
  | .alias e => if e = d then .junk else .alias e
  | .ref e o => if e = d then .junk else .ref e o
  | .into e i o => if e = d then .junk else .into e i o
  | .clo f ds => if d ∈ ds then .junk else .clo f ds
  | av => av
def ASt.free (st : ASt) (d : Nat) : ASt := fun k => if k = d then .junk else (st k).kill d
theorem free_same (st : ASt) (d : Nat) : st.free d d = .junk := by simp [ASt.free]
theorem free_ne {st : ASt} {d k : Nat} (h : k ≠ d) : st.free d k = (st k).kill d := by simp [ASt.free, h]
theorem kill_home {d : Nat} {av : AV} (h : av.isHome = true) : av.kill d = av := by cases av <;> first | rfl | cases h
theorem home_kill {d : Nat} {av : AV} (h : (av.kill d).isHome = true) : av.isHome = true := by
  cases av <;> simp only [AV.kill] at h <;> first | exact h | (split at h <;> cases h)
theorem free_home {st : ASt} {d k : Nat} (hk : k ≠ d) (h : (st k).isHome = true) : st.free d k = st k := by rw [free_ne hk, kill_home h]

section
variable {w0 : Ent} {w w' : World} {S : Nat → Prop} {n : Lim} {st : ASt} {β : Bt} {a : Act}
/-- The others, where d is let go. -/
theorem SlotRel.free {base : Nat} {I : Nat → Prop} {tm : Array Value} {k d : Nat} {β' : Bt} {x : AV} (hkd : k ≠ d) (hβ : ∀ j, j ≠ d → (j = k ∨ (st j).isHome = true) → β' j = β j) (h : SlotRel w base I st β tm x k) :
    SlotRel w base I (st.free d) β' tm (x.kill d) k := by
  have fr : ∀ {t : Nat}, t ≠ d → (st t).isHome = true → st.free d t = st t := fun ht hh => free_home ht hh
  cases x <;> simp only [AV.kill]
  case own => simp only [SlotRel] at h ⊢; rw [hβ k hkd (.inl rfl)]; exact h
  case box => simp only [SlotRel] at h ⊢; rw [hβ k hkd (.inl rfl)]; exact h
  case held => simp only [SlotRel] at h ⊢; rw [hβ k hkd (.inl rfl)]; exact h
  case alias t =>
    split
    · exact Rel.junk _
    · rename_i ht
      obtain ⟨⟨e, m, xs, h1⟩, h2⟩ := h
      exact ⟨⟨e, m, xs, by rw [fr ht (by rw [h1]; rfl)]; exact h1⟩, h2⟩
  case ref t o =>
    split
    · exact Rel.junk _
    · rename_i ht
      obtain ⟨⟨cs, h1⟩, g, hg, h2⟩ := h
      exact ⟨⟨cs, by rw [fr ht (by rw [h1]; rfl)]; exact h1⟩, g, by rw [hβ t ht (.inr (by rw [h1]; rfl))]; exact hg, h2⟩
  case into t i o =>
    split
    · exact Rel.junk _
    · rename_i ht
      obtain ⟨e, m, xs, g, h1, h2, hg, h3⟩ := h
      exact ⟨e, m, xs, g, by rw [fr ht (by rw [h1]; rfl)]; exact h1, h2, by rw [hβ t ht (.inr (by rw [h1]; rfl))]; exact hg, h3⟩
  case clo f ds =>
    split
    · exact Rel.junk _
    · rename_i hd
      obtain ⟨h1, h2⟩ := h
      refine ⟨fun t hm => ?_, h2⟩
      obtain ⟨cs, hc⟩ := h1 t hm
      exact ⟨cs, by rw [fr (fun e => hd (e ▸ hm)) (by rw [hc]; rfl)]; exact hc⟩
  all_goals exact h

/-- Slot d gets something of its own, after x has let go of what it had; only what x had may have turned. -/
theorem FR.shift (h : FR w0 S n st β a w) (x : Nat) {d : Nat} {av : AV} {u : Value} {bo : Option Nat} (hxd : x ≠ d) (hd : (st d).isHome = false) (hn : n.In d) (hav : av.isHome = true) (hos : w'.os = w.os) (htape : w'.tape = w.tape) (hout : w'.output = w.output) (hsz : w.heap.size ≤ w'.heap.size)
    (hw : ∀ b, b < w.heap.size → β x ≠ some b → w'.heap[b]? = w.heap[b]?)
    (hbo : ∀ g, bo = some g → β x = some g ∨ (w.heap.size ≤ g ∧ g < w'.heap.size))
    (hnew : ∀ I : Nat → Prop, (∀ b, Imm S w0 w β b → I b) → (∀ b, w.heap.size ≤ b → b < w'.heap.size → bo ≠ some b → I b) → SlotRel w' w0.base I ((st.free x).put d av) (fun k => if k = d then bo else if k = x then none else β k) (a.tmps.setIfInBounds d u) av d) :
    FR w0 S n ((st.free x).put d av) (fun k => if k = d then bo else if k = x then none else β k) (a.put (some d) u) w' := by
  have hβd : β d = none := by
    cases hq : β d with
    | none => rfl
    | some g => have := (h.home d g hq).1; rw [hd] at this; cases this
  have hI : ∀ b, Imm S w0 w β b → Imm S w0 w' (fun k => if k = d then bo else if k = x then none else β k) b := fun b hi => by
    have hlt := h.lt hi
    have hxb : β x ≠ some b := fun e => by
      rcases hi with hi | hi
      · exact h.apart hi (h.home x b e).2.1
      · exact hi.2.2 x e
    rcases hi with hi | hi
    · exact .inl hi
    · refine .inr ⟨hi.1, by omega, fun k => ?_⟩
      by_cases hk : k = d
      · simp only [hk, if_pos]
        intro e
        rcases hbo b e with h1 | h1
        · exact hxb h1
        · omega
      · by_cases hk2 : k = x
        · simp [hk2, hxd]
        · simp only [hk, hk2, if_false]; exact hi.2.2 k
  have hcell : ∀ b o, Imm S w0 w β b → w'.cell? ⟨b, o, none⟩ = w.cell? ⟨b, o, none⟩ := fun b o hi => World.cell?_of_block (a := ⟨b, o, none⟩) (hw b (h.lt hi) (fun e => by
      rcases hi with hi | hi
      · exact h.apart hi (h.home x b e).2.1
      · exact hi.2.2 x e))
  have hfd : (st.free x d).isHome = false := by
    rw [free_ne (Ne.symm hxd)]
    cases hq : ((st d).kill x).isHome with
    | false => rfl
    | true => have := home_kill hq; rw [hd] at this; cases this
  refine ⟨⟨hos.trans h.below.os, htape.trans h.below.tape, hout.trans h.below.output, Nat.le_trans h.below.size hsz, fun k hk hk2 => (hw k (Nat.lt_of_lt_of_le hk h.below.size) (fun e => by
    rcases (h.home x k e).2.1 with q | q
    · exact hk2 q
    · omega)).trans (h.below.block k hk hk2)⟩, h.base, h.given, h.old, by simp [Act.put, h.size], fun v hv => by obtain ⟨h1, h2⟩ := h.pin v hv; exact ⟨h1, by rw [← h2]; exact getD_set_ne' (by have := hn.2; omega)⟩, h.defers, ?_, ?_, ?_⟩
  · intro k g hg
    by_cases hk : k = d
    · subst hk
      simp only [if_pos] at hg
      rcases hbo g hg with h1 | h1
      · obtain ⟨_, q2, q3⟩ := h.home x g h1
        exact ⟨by rw [put_same]; exact hav, q2, by omega⟩
      · exact ⟨by rw [put_same]; exact hav, h.new h1.1, h1.2⟩
    · by_cases hk2 : k = x
      · simp [hk2, hxd] at hg
      · simp only [hk, hk2, if_false] at hg
        obtain ⟨h1, h2, h3⟩ := h.home k g hg
        exact ⟨by rw [put_ne hk, free_home hk2 h1]; exact h1, h2, by omega⟩
  · intro i j g hi hj
    have inx : ∀ k, k ≠ d → (if k = d then bo else if k = x then none else β k) = some g → k ≠ x ∧ β k = some g := fun k hk hg => by
      simp only [hk, if_false] at hg
      by_cases hk2 : k = x
      · simp [hk2] at hg
      · simp only [hk2, if_false] at hg; exact ⟨hk2, hg⟩
    by_cases h1 : i = d <;> by_cases h2 : j = d
    · rw [h1, h2]
    · exfalso
      obtain ⟨n1, n2⟩ := inx j h2 hj
      simp only [h1, if_pos] at hi
      rcases hbo g hi with q | q
      · exact n1 (h.inj _ _ g n2 q)
      · have := (h.home j g n2).2.2; omega
    · exfalso
      obtain ⟨n1, n2⟩ := inx i h1 hi
      simp only [h2, if_pos] at hj
      rcases hbo g hj with q | q
      · exact n1 (h.inj _ _ g n2 q)
      · have := (h.home i g n2).2.2; omega
    · exact h.inj i j g (inx i h1 hi).2 (inx j h2 hj).2
  · intro k
    by_cases hk : k = d
    · subst hk
      rw [put_same]
      refine hnew _ hI fun b h1 h2 h3 => .inr ⟨h.new h1, h2, fun j => ?_⟩
      by_cases hj : j = k
      · simp only [hj, if_pos]; exact h3
      · by_cases hj2 : j = x
        · simp [hj2, hxd]
        · simp only [hj, hj2, if_false]; intro e; have := (h.home j b e).2.2; omega
    · rw [put_ne hk]
      by_cases hk2 : k = x
      · subst hk2; rw [free_same]; exact Rel.junk _
      · rw [free_ne hk2]
        have h1 := ((h.slot k).mono (w' := w') hI hcell (fun g hg => hw g (h.home k g hg).2.2 (fun e => hk2 (h.inj _ _ g hg e)))).free (d := x) (β' := fun k => if k = d then bo else if k = x then none else β k) hk2 (fun j hj hj2 => by
          have hjd : j ≠ d := fun e => by
            rcases hj2 with q | q
            · exact hk (q.symm.trans e)
            · rw [e, hd] at q; cases q
          simp [hjd, hj])
        exact SlotRel.put (av := av) (u := u) hk hfd h1

/-- Slot d lets go of what it had. -/
theorem FR.free (h : FR w0 S n st β a w) (d : Nat) : FR w0 S n (st.free d) (fun k => if k = d then none else β k) a w where
  below := h.below
  base := h.base
  given := h.given
  old := h.old
  size := h.size
  pin := h.pin
  defers := h.defers
  home := fun k g hg => by
    by_cases hk : k = d
    · simp [hk] at hg
    · simp only [hk, if_false] at hg
      obtain ⟨h1, h2⟩ := h.home k g hg
      rw [free_home hk h1]; exact ⟨h1, h2⟩
  inj := fun i j g hi hj => by
    by_cases h1 : i = d
    · simp [h1] at hi
    · by_cases h2 : j = d
      · simp [h2] at hj
      · simp only [h1, h2, if_false] at hi hj; exact h.inj i j g hi hj
  slot := fun k => by
    by_cases hk : k = d
    · subst hk; rw [free_same]; exact Rel.junk _
    · rw [free_ne hk]
      refine ((h.slot k).mono (w' := w) (fun b hb => ?_) (fun _ _ _ => rfl) (fun _ _ => rfl)).free hk (fun j hj _ => by simp [hj])
      rcases hb with hb | hb
      · exact .inl hb
      · refine .inr ⟨hb.1, hb.2.1, fun j => ?_⟩
        by_cases hj : j = d
        · simp [hj]
        · simp only [hj, if_false]; exact hb.2.2 j

/-- What slot x has is written. -/
theorem FR.write (h : FR w0 S n st β a w) {x g : Nat} {av : AV} (hx : β x = some g) (hos : w'.os = w.os) (htape : w'.tape = w.tape) (hout : w'.output = w.output) (hsz : w'.heap.size = w.heap.size)
    (hw : ∀ b, b ≠ g → w'.heap[b]? = w.heap[b]?) (hav : (∃ cs cs', st x = .box cs ∧ av = .box cs') ∨ (∃ e m xs xs', st x = .own e m xs ∧ av = .own e m xs' ∧ xs'.length = xs.length))
    (hnew : ∀ I : Nat → Prop, (∀ b, Imm S w0 w β b → I b) → SlotRel w' w0.base I (st.put x av) β a.tmps av x) : FR w0 S n (st.put x av) β a w' := by
  have hh : av.isHome = true := by rcases hav with ⟨_, _, _, rfl⟩ | ⟨_, _, _, _, _, rfl, _⟩ <;> rfl
  have hI : ∀ b, Imm S w0 w β b → Imm S w0 w' β b := fun b hb => hb.grow (Nat.le_of_eq hsz.symm)
  have hng : ∀ b, Imm S w0 w β b → b ≠ g := fun b hb e => by
    subst e
    rcases hb with hb | hb
    · exact h.apart hb (h.home x b hx).2.1
    · exact hb.2.2 x hx
  refine ⟨⟨hos.trans h.below.os, htape.trans h.below.tape, hout.trans h.below.output, by rw [hsz]; exact h.below.size, fun k hk hk2 => (hw k (fun e => by
    rcases (h.home x g hx).2.1 with q | q
    · exact hk2 (e ▸ q)
    · omega)).trans (h.below.block k hk hk2)⟩, h.base, h.given, h.old, h.size, h.pin, h.defers, ?_, h.inj, ?_⟩
  · intro k q hq
    obtain ⟨h1, h2, h3⟩ := h.home k q hq
    refine ⟨?_, h2, by rw [hsz]; exact h3⟩
    by_cases hk : k = x
    · subst hk; rw [put_same]; exact hh
    · rw [put_ne hk]; exact h1
  · intro k
    by_cases hk : k = x
    · subst hk; rw [put_same]; exact hnew _ hI
    · rw [put_ne hk]
      have h1 := (h.slot k).mono (w' := w') hI (fun b o hb => World.cell?_of_block (a := ⟨b, o, none⟩) (hw b (hng b hb))) (fun q hq => hw q (fun e => hk (h.inj _ _ g (e ▸ hq) hx)))
      revert h1
      cases hq : st k <;> simp only [SlotRel] <;> intro h1
      case alias t =>
        obtain ⟨⟨e, m, xs, h2⟩, h3⟩ := h1
        refine ⟨?_, h3⟩
        by_cases ht : t = x
        · subst ht
          rcases hav with ⟨_, _, q1, _⟩ | ⟨e', m', xs', ys, q1, q2, _⟩
          · rw [h2] at q1; cases q1
          · exact ⟨e', m', ys, by rw [put_same]; exact q2⟩
        · exact ⟨e, m, xs, by rw [put_ne ht]; exact h2⟩
      case ref t o =>
        obtain ⟨⟨cs, h2⟩, h3⟩ := h1
        refine ⟨?_, h3⟩
        by_cases ht : t = x
        · subst ht
          rcases hav with ⟨c1, c2, q1, q2⟩ | ⟨_, _, _, _, q1, _⟩
          · exact ⟨c2, by rw [put_same]; exact q2⟩
          · rw [h2] at q1; cases q1
        · exact ⟨cs, by rw [put_ne ht]; exact h2⟩
      case into t i o =>
        obtain ⟨e, m, xs, q, h2, h3, h4⟩ := h1
        by_cases ht : t = x
        · subst ht
          rcases hav with ⟨_, _, q1, _⟩ | ⟨e', m', xs', ys, q1, q2, q3⟩
          · rw [h2] at q1; cases q1
          · rw [h2] at q1
            injection q1 with r1 r2 r3
            subst r1; subst r2; subst r3
            exact ⟨e, m, ys, q, by rw [put_same]; exact q2, by omega, h4⟩
        · exact ⟨e, m, xs, q, by rw [put_ne ht]; exact h2, h3, h4⟩
      case clo f ds =>
        obtain ⟨h2, h3⟩ := h1
        refine ⟨fun t ht => ?_, h3⟩
        obtain ⟨cs, hc⟩ := h2 t ht
        by_cases htx : t = x
        · subst htx
          rcases hav with ⟨c1, c2, q1, q2⟩ | ⟨_, _, _, _, q1, _⟩
          · exact ⟨c2, by rw [put_same]; exact q2⟩
          · rw [hc] at q1; cases q1
        · exact ⟨cs, by rw [put_ne htx]; exact hc⟩
      all_goals exact h1
/-- A slice that one slot has becomes one that nobody writes. -/
theorem own_ro {base : Nat} {I : Nat → Prop} {e m : Nat} {xs : List (List AV)} {v : Value} {bo : Option Nat} (h : OwnAt w base I e m xs v bo) (hb : ∀ g, bo = some g → I g) : Rel w I (.ro xs) v := by
  have h2 := h
  obtain ⟨A, c, rfl, hc, hx, hne⟩ := own_row h
  obtain ⟨cells, hown, hm, h0, hbo, _⟩ := h2
  by_cases hxs : xs = []
  · subst hxs; exact Rel.ro0 A c
  · obtain ⟨b, off, m', f, rfl, hlt, hm', hcell, hrel⟩ := hne hxs
    exact Rel.ro xs b off c m' f (hb b (by rw [← hbo]; rfl)) hm' hc hx hcell hrel
theorem box_at {base : Nat} {I : Nat → Prop} {cs : List AV} {v : Value} {bo : Option Nat} (h : BoxAt w base I cs v bo) (hb : ∀ g, bo = some g → I g) (o : Nat) : ∃ g, bo = some g ∧ Rel w I (.roAt cs o) (.pointer (some ⟨g, o, none⟩)) := by
  obtain ⟨g, t, cur, h1, h2, h3, h4, h5, h6, h7⟩ := h
  refine ⟨g, h1, ?_⟩
  have := Rel.roAt (w := w) (I := I) cs g 0 o (fun j => cur.getD j undef) (hb g h1) (fun j hj => ?_) h7
  · simpa using this
  · have hj' : j < cur.size := by omega
    exact ⟨by simpa using h4.cell j _ (getD_arr hj'), h6 _ (Array.mem_toList_iff.2 (Array.mem_of_getElem? (getD_arr hj')))⟩
end
end Go.Proofs.Ytpecmhdepggnoaa
