/- The machine on data: calls that get something of the caller's own, and turn it or hand back another thing in its place. -/
import Derived.Test.YtpecmhdepggnoaaDmJ
namespace Go.Proofs.Ytpecmhdepggnoaa
open Go.RowKit

/-- Something of the frame's own. -/
def HomeAt (w : World) (base : Nat) (I : Nat → Prop) : AV → Value → Option Nat → Prop
  | .own e m xs, v, bo => OwnAt w base I e m xs v bo
  | .box cs, v, bo => BoxAt w base I cs v bo
  | _, _, _ => False
/-- What a slot's own may turn into in place. -/
def AV.turns : AV → AV → Prop
  | .own e m xs, .own e' m' ys => e' = e ∧ m' = m ∧ ys.length = xs.length
  | .box _, .box _ => True
  | _, _ => False
theorem turns_home {x y : AV} (h : x.turns y) : x.isHome = true := by
  cases x <;> cases y <;> first | rfl | exact h.elim
/-- What is handed back in place of something that was taken. -/
def TakeRes (w : World) (S : Nat → Prop) (w' : World) (base : Nat) (bo : Option Nat) (v : Value) : AV → Prop
  | .own e m ys => (∀ g, v.ownBlock = some g → bo = some g ∨ (w.heap.size ≤ g ∧ g < w'.heap.size)) ∧ OwnAt w' base (fun b => S b ∨ (w.heap.size ≤ b ∧ b < w'.heap.size ∧ v.ownBlock ≠ some b)) e m ys v v.ownBlock
  | av => Rel w' (fun b => S b ∨ bo = some b ∨ (w.heap.size ≤ b ∧ b < w'.heap.size)) av v
/-- The contract of a function that takes a row of the caller's own. -/
def TakeOK (P : Program) (f : FuncId) (e m : Nat) (xs : List (List AV)) (args : List AV) (res : AV) : Prop :=
  ∀ (w : World) (base : Nat) (S : Nat → Prop) (v0 : Value) (bo : Option Nat) (vs : List Value), TabB w base → (∀ b, S b → b < w.heap.size ∧ bo ≠ some b) → base ≤ w.heap.size → OwnAt w base S e m xs v0 bo →
    vs.length = args.length → (∀ (j : Nat) av v, args[j]? = some av → vs[j]? = some v → Rel w S av v) →
    Calls P f (v0 :: vs).toArray w fun e w' => ∃ v, e = .returned v ∧ Past w w' bo ∧ TakeRes w S w' base bo v res
/-- The contract of a function that turns something of the caller's own. -/
def TurnOK (P : Program) (f : FuncId) (a0 a1 : AV) (args : List AV) (res : AV) : Prop :=
  ∀ (w : World) (base : Nat) (S : Nat → Prop) (v0 : Value) (bo : Option Nat) (vs : List Value), TabB w base → (∀ b, S b → b < w.heap.size ∧ bo ≠ some b) → base ≤ w.heap.size → HomeAt w base S a0 v0 bo →
    vs.length = args.length → (∀ (j : Nat) av v, args[j]? = some av → vs[j]? = some v → Rel w S av v) →
    Calls P f (v0 :: vs).toArray w fun e w' => ∃ v, e = .returned v ∧ Past w w' bo ∧ HomeAt w' base (fun b => S b ∨ (w.heap.size ≤ b ∧ b < w'.heap.size ∧ bo ≠ some b)) a1 v0 bo ∧ Rel w' (fun b => S b ∨ (w.heap.size ≤ b ∧ b < w'.heap.size ∧ bo ≠ some b)) res v

section
variable {P : Program} {w0 : Ent} {w w' : World} {S : Nat → Prop} {n : Lim} {st : ASt} {β : Bt} {a : Act} {o : Oper}
theorem imm_ne (h : FR w0 S n st β a w) {x b : Nat} (hi : Imm S w0 w β b) : β x ≠ some b := fun e => by
  rcases hi with hi | hi
  · exact h.apart hi (h.home x b e).2.1
  · exact hi.2.2 x e
theorem past_below (h : FR w0 S n st β a w) {x : Nat} (hp : Past w w' (β x)) : Past w0.w w' w0.bo :=
  ⟨hp.os.trans h.below.os, hp.tape.trans h.below.tape, hp.output.trans h.below.output, Nat.le_trans h.below.size hp.size, fun k hk hk2 => (hp.block k (Nat.lt_of_lt_of_le hk h.below.size) (fun e => by
    rcases (h.home x k e).2.1 with q | q
    · exact hk2 q
    · omega)).trans (h.below.block k hk hk2)⟩
/-- Slot x has lost what it had, and that may have turned. -/
theorem FR.lose (h : FR w0 S n st β a w) (x : Nat) (hp : Past w w' (β x)) : FR w0 S n (st.free x) (fun k => if k = x then none else β k) a w' := by
  have hI : ∀ b, Imm S w0 w β b → Imm S w0 w' (fun k => if k = x then none else β k) b := fun b hi => by
    rcases hi with hi | hi
    · exact .inl hi
    · have := hp.size
      refine .inr ⟨hi.1, by omega, fun k => ?_⟩
      by_cases hk : k = x
      · simp [hk]
      · simp only [hk, if_false]; exact hi.2.2 k
  have hcell : ∀ b o, Imm S w0 w β b → w'.cell? ⟨b, o, none⟩ = w.cell? ⟨b, o, none⟩ := fun b o hi => World.cell?_of_block (a := ⟨b, o, none⟩) (hp.block b (h.lt hi) (imm_ne h hi))
  refine ⟨past_below h hp, h.base, h.given, h.old, h.size, h.pin, h.defers, ?_, ?_, ?_⟩
  · intro k g hg
    by_cases hk : k = x
    · simp [hk] at hg
    · simp only [hk, if_false] at hg
      obtain ⟨h1, h2, h3⟩ := h.home k g hg
      have := hp.size
      exact ⟨by rw [free_home hk h1]; exact h1, h2, by omega⟩
  · intro i j g hi hj
    by_cases h1 : i = x
    · simp [h1] at hi
    · by_cases h2 : j = x
      · simp [h2] at hj
      · simp only [h1, h2, if_false] at hi hj; exact h.inj i j g hi hj
  · intro k
    by_cases hk : k = x
    · subst hk; rw [free_same]; exact Rel.junk _
    · rw [free_ne hk]
      exact ((h.slot k).mono (w' := w') hI hcell (fun g hg => hp.block g (h.home k g hg).2.2 (fun e => hk (h.inj _ _ g hg e)))).free hk (fun j hj _ => by simp [hj])
/-- What slot x has has turned. -/
theorem FR.turn (h : FR w0 S n st β a w) {x : Nat} {av : AV} (hp : Past w w' (β x)) (hav : (st x).turns av)
    (hnew : ∀ I : Nat → Prop, (∀ b, Imm S w0 w β b → I b) → (∀ b, w.heap.size ≤ b → b < w'.heap.size → β x ≠ some b → I b) → HomeAt w' w0.base I av (a.tmps.getD x undef) (β x)) : FR w0 S n (st.put x av) β a w' := by
  have hh : av.isHome = true := by
    revert hav; cases st x <;> cases av <;> intro hav <;> first | exact hav.elim | rfl
  have hI : ∀ b, Imm S w0 w β b → Imm S w0 w' β b := fun b hb => hb.grow hp.size
  refine ⟨past_below h hp, h.base, h.given, h.old, h.size, h.pin, h.defers, ?_, h.inj, ?_⟩
  · intro k q hq
    obtain ⟨h1, h2, h3⟩ := h.home k q hq
    have := hp.size
    refine ⟨?_, h2, by omega⟩
    by_cases hk : k = x
    · subst hk; rw [put_same]; exact hh
    · rw [put_ne hk]; exact h1
  · intro k
    by_cases hk : k = x
    · subst hk; rw [put_same]
      have := hnew (Imm S w0 w' β) hI (fun b h1 h2 h3 => .inr ⟨h.new h1, h2, fun j e => by
        have := (h.home j b e).2.2; omega⟩)
      cases av <;> first | exact this | exact this.elim
    · rw [put_ne hk]
      have h1 := (h.slot k).mono (w' := w') hI (fun b o hb => World.cell?_of_block (a := ⟨b, o, none⟩) (hp.block b (h.lt hb) (imm_ne h hb))) (fun q hq => hp.block q (h.home k q hq).2.2 (fun e => hk (h.inj _ _ q hq e)))
      revert h1
      cases hq : st k <;> simp only [SlotRel] <;> intro h1
      case alias t =>
        obtain ⟨⟨e, m, xs, h2⟩, h3⟩ := h1
        refine ⟨?_, h3⟩
        by_cases ht : t = x
        · subst ht
          rw [h2] at hav
          cases av <;> first | exact hav.elim | exact ⟨_, _, _, by rw [put_same]⟩
        · exact ⟨e, m, xs, by rw [put_ne ht]; exact h2⟩
      case ref t o =>
        obtain ⟨⟨cs, h2⟩, h3⟩ := h1
        refine ⟨?_, h3⟩
        by_cases ht : t = x
        · subst ht
          rw [h2] at hav
          cases av <;> first | exact hav.elim | exact ⟨_, by rw [put_same]⟩
        · exact ⟨cs, by rw [put_ne ht]; exact h2⟩
      case into t i o =>
        obtain ⟨e, m, xs, q, h2, h3, h4⟩ := h1
        by_cases ht : t = x
        · subst ht
          rw [h2] at hav
          cases av <;> first
            | exact hav.elim
            | (obtain ⟨rfl, rfl, hl⟩ := hav
               exact ⟨_, _, _, q, by rw [put_same], by omega, h4⟩)
        · exact ⟨e, m, xs, q, by rw [put_ne ht]; exact h2, h3, h4⟩
      case clo f ds =>
        obtain ⟨h2, h3⟩ := h1
        refine ⟨fun t ht => ?_, h3⟩
        obtain ⟨cs, hc⟩ := h2 t ht
        by_cases htx : t = x
        · subst htx
          rw [hc] at hav
          cases av <;> first | exact hav.elim | exact ⟨_, by rw [put_same]⟩
        · exact ⟨cs, by rw [put_ne htx]; exact hc⟩
      all_goals exact h1

/-- What such a call leaves. -/
def CalledS (P : Program) (w0 : Ent) (S : Nat → Prop) (n : Lim) (a : Act) (w : World) (o : Oper) (d : Nat) (st' : ASt) : Prop :=
  ∃ f args, (execOp a.eval o).run P w = .ok (.enter f args) w ∧ Calls P f args w fun e w' => ∃ v β', e = .returned v ∧ FR w0 S n st' β' (a.put (some d) v) w'
theorem call_args0 {f : Nat} {x : Opd} {r : List Opd} {args : Array Operand} {ats : Array TypeId} (h : FR w0 S n st β a w) (ho : o.op = .call { callee := .value (.func f), args, argTypes := ats }) (hf : okFn P f = true) (hargs : okOpds args.toList (x :: r) = true) (hl : ∀ y ∈ r, (view st y).noLoan = true) :
    ∃ v0 vs, (execOp a.eval o).run P w = .ok (.enter f (v0 :: vs).toArray) w ∧ VOk w (Imm S w0 w β) st β a.tmps v0 (view st x) ∧ vs.length = (r.map fun y => argv st (view st y)).length ∧
      (∀ (j : Nat) av v, (r.map fun y => argv st (view st y))[j]? = some av → vs[j]? = some v → Rel w (Imm S w0 w β) av v) := by
  have hrun := call_run (P := P) (a := a) (w := w) ho hf
  revert hrun hargs
  generalize args.toList = al
  intro hargs hrun
  cases al with
  | nil => simp [okOpds] at hargs
  | cons y ys =>
    simp only [okOpds, Bool.and_eq_true] at hargs
    obtain ⟨q1, _, q3⟩ := opds_rel h ys r hargs.2
    exact ⟨_, _, hrun, view_ok h hargs.1, q1, q3 hl⟩
theorem call_args {f : Nat} {x : Opd} {r : List Opd} (h : FR w0 S n st β a w) (hok : okCall P o.op (.call f (x :: r)) = true) (hl : ∀ y ∈ r, (view st y).noLoan = true) :
    ∃ v0 vs, (execOp a.eval o).run P w = .ok (.enter f (v0 :: vs).toArray) w ∧ VOk w (Imm S w0 w β) st β a.tmps v0 (view st x) ∧ vs.length = (r.map fun y => argv st (view st y)).length ∧
      (∀ (j : Nat) av v, (r.map fun y => argv st (view st y))[j]? = some av → vs[j]? = some v → Rel w (Imm S w0 w β) av v) := by
  generalize ho : o.op = oo at hok
  unfold okCall at hok
  split at hok
  · rename_i he
    cases he
    simp only [Bool.and_eq_true, beq_iff_eq] at hok
    obtain ⟨⟨rfl, hf⟩, hargs⟩ := hok
    exact call_args0 h ho hf hargs hl
  · cases hok
theorem take_ok {f k e m : Nat} {x : Opd} {r : List Opd} {xs : List (List AV)} {res : AV} (h : FR w0 S n st β a w) (hok : okCall P o.op (.call f (x :: r)) = true) (hx : view st x = .alias k) (hk : st k = .own e m xs)
    (hc : TakeOK P f e m xs (r.map fun y => argv st (view st y)) res) (hl : ∀ y ∈ r, (view st y).noLoan = true) {d : Nat} (hd : (st d).isHome = false) (hn : n.In d) : CalledS P w0 S n a w o d ((st.free k).put d res) := by
  obtain ⟨v0, vs, hrun, hv, q1, q2⟩ := call_args h hok hl
  rw [hx] at hv
  obtain ⟨_, hv⟩ := hv
  have hs := h.slot k
  rw [hk] at hs
  simp only [SlotRel] at hs
  rw [← hv] at hs
  have hkd : k ≠ d := fun e => by rw [← e, hk] at hd; cases hd
  refine ⟨_, _, hrun, (hc w w0.base _ v0 (β k) vs h.tabs (fun b hb => ⟨h.lt hb, imm_ne h hb⟩) h.bases hs q1 q2).mono ?_⟩
  rintro ev w' ⟨v, rfl, hp, hr⟩
  by_cases hown : ∃ e m xs, res = .own e m xs
  · obtain ⟨e', m', ys, rfl⟩ := hown
    obtain ⟨hbo, hr⟩ := hr
    refine ⟨v, _, rfl, h.shift (w' := w') k (d := d) (av := .own e' m' ys) (u := v) (bo := v.ownBlock) hkd hd hn rfl hp.os hp.tape hp.output hp.size hp.block hbo (fun I hI hI2 => ?_)⟩
    simp only [SlotRel, if_pos]
    rw [getD_set_same' (by rw [h.size]; exact hn.1)]
    refine OwnAt.mono (w := w') (fun b hb => ?_) (fun _ _ _ => rfl) (fun _ _ => rfl) hr
    rcases hb with hb | hb
    · exact hI b hb
    · exact hI2 b hb.1 hb.2.1 hb.2.2
  · have hr' : Rel w' (fun b => Imm S w0 w β b ∨ β k = some b ∨ (w.heap.size ≤ b ∧ b < w'.heap.size)) res v := by
      cases res <;> first | exact hr | (exact absurd ⟨_, _, _, rfl⟩ hown)
    have hfd : (st.free k d).isHome = false := by
      rw [free_ne (Ne.symm hkd)]
      cases hq : ((st d).kill k).isHome with
      | false => rfl
      | true => have := home_kill hq; rw [hd] at this; cases this
    have base : w0.base ≤ w.heap.size := h.bases
    have hsz := hp.size
    refine ⟨v, _, rfl, (h.lose k hp).put_imm hfd hn (hr'.mono (fun b hb => ?_) (fun _ _ _ => rfl))⟩
    rcases hb with hb | hb | hb
    · rcases hb with hb | hb
      · exact .inl hb
      · refine .inr ⟨hb.1, by omega, fun j => ?_⟩
        by_cases hj : j = k
        · simp [hj]
        · simp only [hj, if_false]; exact hb.2.2 j
    · have hh := h.home k b hb
      refine .inr ⟨hh.2.1, by omega, fun j => ?_⟩
      by_cases hj : j = k
      · simp [hj]
      · simp only [hj, if_false]; exact fun e => hj (h.inj _ _ b e hb)
    · refine .inr ⟨h.new hb.1, hb.2, fun j => ?_⟩
      by_cases hj : j = k
      · simp [hj]
      · simp only [hj, if_false]; intro e; have := (h.home j b e).2.2; omega
/-- The same of a row that is nil. -/
theorem take_ok0 {f e m : Nat} {x : Opd} {r : List Opd} {res : AV} (h : FR w0 S n st β a w) (hok : okCall P o.op (.call f (x :: r)) = true) (hx : view st x = .nilsl) (hm : 0 < m)
    (hc : TakeOK P f e m [] (r.map fun y => argv st (view st y)) res) (hl : ∀ y ∈ r, (view st y).noLoan = true) {d : Nat} (hd : (st d).isHome = false) (hn : n.In d) : CalledS P w0 S n a w o d (st.put d res) := by
  obtain ⟨v0, vs, hrun, hv, q1, q2⟩ := call_args h hok hl
  rw [hx] at hv
  have hv0 : v0 = .slice none 0 0 := by cases hv; rfl
  have hs : OwnAt w w0.base (Imm S w0 w β) e m [] v0 none := ⟨[], by rw [hv0]; exact World.ownsRow_nil w w0.base e m, by simp, hm, by rw [hv0]; rfl, by simp, by simp, by simp⟩
  refine ⟨_, _, hrun, (hc w w0.base _ v0 none vs h.tabs (fun b hb => ⟨h.lt hb, by simp⟩) h.bases hs q1 q2).mono ?_⟩
  rintro ev w' ⟨v, rfl, hp, hr⟩
  have hb : Below w.heap.size w w' := ⟨hp.os, hp.tape, hp.output, hp.size, fun b hb => hp.block b hb (by simp)⟩
  by_cases hown : ∃ e m xs, res = .own e m xs
  · obtain ⟨e', m', ys, rfl⟩ := hown
    obtain ⟨hbo, hr⟩ := hr
    refine ⟨v, _, rfl, h.put_home hb (av := .own e' m' ys) (bo := v.ownBlock) hd hn rfl (fun g hg => (hbo g hg).resolve_left (by simp)) (fun I hI hI2 => ?_)⟩
    simp only [SlotRel, if_pos]
    rw [getD_set_same' (by rw [h.size]; exact hn.1)]
    refine OwnAt.mono (w := w') (fun b hb => ?_) (fun _ _ _ => rfl) (fun _ _ => rfl) hr
    rcases hb with hb | hb
    · exact hI b hb
    · exact hI2 b hb.1 hb.2.1 hb.2.2
  · have hr' : Rel w' (fun b => Imm S w0 w β b ∨ none = some b ∨ (w.heap.size ≤ b ∧ b < w'.heap.size)) res v := by
      cases res <;> first | exact hr | (exact absurd ⟨_, _, _, rfl⟩ hown)
    have base : w0.base ≤ w.heap.size := h.bases
    have hsz := hp.size
    refine ⟨v, _, rfl, (h.world hb).put_imm hd hn (hr'.mono (fun b hb => ?_) (fun _ _ _ => rfl))⟩
    rcases hb with hb | hb | hb
    · exact hb.grow hsz
    · cases hb
    · exact .inr ⟨h.new hb.1, hb.2, fun j e => by have := (h.home j b e).2.2; omega⟩
theorem turn_ok {f k : Nat} {x : Opd} {r : List Opd} {a1 res : AV} (h : FR w0 S n st β a w) (hok : okCall P o.op (.call f (x :: r)) = true) (hx : view st x = .alias k ∨ view st x = .ref k 0) (ht : (st k).turns a1)
    (hc : TurnOK P f (st k) a1 (r.map fun y => argv st (view st y)) res) (hl : ∀ y ∈ r, (view st y).noLoan = true) {d : Nat} (hd : (st d).isHome = false) (hn : n.In d) : CalledS P w0 S n a w o d ((st.put k a1).put d res) := by
  obtain ⟨v0, vs, hrun, hv, q1, q2⟩ := call_args h hok hl
  have hs0 := h.slot k
  have hs : HomeAt w w0.base (Imm S w0 w β) (st k) v0 (β k) ∧ v0 = a.tmps.getD k undef := by
    rcases hx with hx | hx
    · rw [hx] at hv
      obtain ⟨⟨e, m, xs, hk⟩, hv⟩ := hv
      rw [hk] at hs0 ⊢
      exact ⟨by rw [hv]; exact hs0, hv⟩
    · rw [hx] at hv
      obtain ⟨⟨cs, hk⟩, g, hg, hv⟩ := hv
      rw [hk] at hs0 ⊢
      have hs1 := hs0
      obtain ⟨g', t, cur, r1, r2, r3, _⟩ := hs1
      obtain rfl : g = g' := by rw [hg] at r1; injection r1
      have e : v0 = a.tmps.getD k undef := by rw [hv, r3]
      exact ⟨by rw [e]; exact hs0, e⟩
  have hkd : k ≠ d := fun e => by
    rw [← e, turns_home ht] at hd; cases hd
  refine ⟨_, _, hrun, (hc w w0.base _ v0 (β k) vs h.tabs (fun b hb => ⟨h.lt hb, imm_ne h hb⟩) h.bases hs.1 q1 q2).mono ?_⟩
  rintro ev w' ⟨v, rfl, hp, hr1, hr2⟩
  have hf : FR w0 S n (st.put k a1) β a w' := h.turn hp ht fun I hI hI2 => by
    rw [← hs.2]
    have up : ∀ b, (Imm S w0 w β b ∨ (w.heap.size ≤ b ∧ b < w'.heap.size ∧ β k ≠ some b)) → I b := fun b hb => by
      rcases hb with hb | hb
      · exact hI b hb
      · exact hI2 b hb.1 hb.2.1 hb.2.2
    revert hr1
    cases a1 <;> simp only [HomeAt] <;> intro hr1
    case own => exact OwnAt.mono (w := w') up (fun _ _ _ => rfl) (fun _ _ => rfl) hr1
    case box => exact BoxAt.mono (w := w') up (fun _ _ _ => rfl) (fun _ _ => rfl) hr1
    all_goals exact hr1
  have base : w0.base ≤ w.heap.size := h.bases
  have hsz := hp.size
  refine ⟨v, _, rfl, hf.put_imm (by rw [put_ne (Ne.symm hkd)]; exact hd) hn (hr2.mono (fun b hb => ?_) (fun _ _ _ => rfl))⟩
  rcases hb with hb | hb
  · exact hb.grow hsz
  · exact .inr ⟨h.new hb.1, hb.2.1, fun j e => by have := (h.home j b e).2.2; omega⟩

/-! ### Calls that the model answers itself -/
/-- A function without a body: what the model answers for it, on plain values. -/
def ExtOK (P : Program) (f : FuncId) (vs cs : List Value) : Prop := ∀ w : World, (callFunc f vs.toArray).run P w = .ok (.value (.tuple cs.toArray)) w
def okCallx : Op → PO → Bool
  | .call { callee := .value (.func f), args, .. }, .callx f' args' => f == f' && okOpds args.toList args'
  | _, _ => false
theorem opds_val (h : FR w0 S n st β a w) : ∀ (xs : List Operand) (ys : List Opd) (vs : List Value), okOpds xs ys = true → ys.map (view st) = vs.map AV.val → xs.map a.eval = vs
  | [], [], vs, _, e => by cases vs with | nil => rfl | cons => simp at e
  | [], _ :: _, _, h, _ => by simp [okOpds] at h
  | _ :: _, [], _, h, _ => by simp [okOpds] at h
  | x :: xs, y :: ys, vs, hok, e => by
    simp only [okOpds, Bool.and_eq_true] at hok
    cases vs with
    | nil => simp at e
    | cons v vs =>
      simp only [List.map_cons, List.cons.injEq] at e
      have hv := view_ok h hok.1
      rw [e.1] at hv
      have : a.eval x = v := by
        revert hv
        generalize a.eval x = u
        intro hv
        cases hv
        rfl
      rw [List.map_cons, this, opds_val h xs ys vs hok.2 e.2]
theorem ext_run {f : Nat} {args : Array Operand} {ats : Array TypeId} {u : Value} (ho : o.op = .call { callee := .value (.func f), args, argTypes := ats }) (h : (callFunc f (args.toList.map a.eval).toArray).run P w = .ok (.value u) w) : (execOp a.eval o).run P w = .ok (.value u) w := by
  simp only [execOp, ho, Sem.run_bind]
  have e : (resolve a.eval { callee := .value (.func f), args := args, argTypes := ats } o.type).run P w = .ok { target := .fn (.func f) #[], args := (args.toList.map a.eval).toArray } w := by
    simp only [resolve, arr_map]
    simp [Act.eval, Deferred.ofValue]
  rw [e]
  simp only [Result.andThen_ok, invoke, Array.append_empty]
  exact h
theorem ext_looks {f : Nat} {ys : List Opd} {vs cs : List Value} (h : FR w0 S n st β a w) (hok : okCallx o.op (.callx f ys) = true) (he : ys.map (view st) = vs.map AV.val) (hx : ExtOK P f vs cs) : Looks P w0 S st β a w o (.tup (cs.map AV.val)) := by
  generalize ho : o.op = oo at hok
  unfold okCallx at hok
  split at hok
  · rename_i heq
    cases heq
    simp only [Bool.and_eq_true, beq_iff_eq] at hok
    obtain ⟨rfl, hargs⟩ := hok
    have hvs := opds_val h _ _ _ hargs he
    refine ⟨.tuple cs.toArray, ?_, ?_⟩
    · exact ext_run ho (by rw [hvs]; exact hx w)
    · refine Rel.tup _ _ (by simp) fun j av hj => ?_
      rw [List.getElem?_map] at hj
      obtain ⟨u, hu, rfl⟩ := Option.map_eq_some_iff.1 hj
      have : cs.toArray.getD j undef = u := by
        rw [Array.getD_eq_getD_getElem?]; simp [hu]
      rw [this]; exact Rel.val _
  · cases hok
end
end Go.Proofs.Ytpecmhdepggnoaa
