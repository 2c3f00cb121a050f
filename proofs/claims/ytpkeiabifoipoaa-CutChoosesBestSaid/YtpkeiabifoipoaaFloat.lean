/- Regions that draw their order, in which one new variable is made at a place that the order leaves open (a struct literal with calls among its parts), and that end in writes to it. One walk of the text's order serves every order. -/
import Derived.Test.YtpkeiabifoipoaaTail
import Derived.Test.YtpkeiabifoipoaaOwn
namespace Go.Proofs.Ytpkeiabifoipoaa
open Go.RowKit

/-- A property of worlds that stays as they grow, and a world that has it. -/
structure Ups (w0 : World) where
  p : World → Prop
  d : World
  hb : Below w0.heap.size w0 d
  hd : p d
  up : ∀ w w', p w → Below w.heap.size w w' → p w'
open Classical in
noncomputable def growP {w0 : World} (u : Ups w0) (x : World) : World := if Below w0.heap.size w0 x ∧ u.p x then x else u.d
section
variable {w0 : World} (u : Ups w0) (x : World)
theorem growP_below : Below w0.heap.size w0 (growP u x) := by
  unfold growP
  split
  · rename_i h; exact h.1
  · exact u.hb
theorem growP_p : u.p (growP u x) := by
  unfold growP
  split
  · rename_i h; exact h.2
  · exact u.hd
theorem growP_of {x : World} (h : Below w0.heap.size w0 x) (hp : u.p x) : x = growP u x := by unfold growP; rw [if_pos ⟨h, hp⟩]
noncomputable def newCellP (p : Addr) : Option Value := (growP u x).cell? p
theorem cell_growP (b o : Nat) (s : Option _) : (growP u x).cell? ⟨b, o, s⟩ = if b < w0.heap.size then w0.cell? ⟨b, o, s⟩ else newCellP u x ⟨b, o, s⟩ := by
  split
  · rename_i h; exact (growP_below u x).cell (p := ⟨b, o, s⟩) h
  · rfl
theorem call_givesP {P : Program} {f : FuncId} {args : Array Value} {v : Value} (h : Calls P f args (growP u x) (Gives v (growP u x))) : Calls P f args (growP u x) fun e w'' => e = .returned v ∧ ∃ y, w'' = growP u y :=
  h.mono fun _ _ ⟨he, hw⟩ => ⟨he, _, growP_of u ((growP_below u x).trans (hw.mono (growP_below u x).size)) (u.up _ _ (growP_p u x) hw)⟩
theorem call_sameP {P : Program} {f : FuncId} {args : Array Value} {v : Value} (h : Calls P f args (growP u x) fun e w' => e = .returned v ∧ growP u x = w') : Calls P f args (growP u x) fun e w'' => e = .returned v ∧ ∃ y, w'' = growP u y :=
  h.mono fun _ _ ⟨he, hw⟩ => ⟨he, x, hw.symm⟩
end

section
variable {P : Program} {ops : Array Oper} {md : Region.Mode} {w0 : World}
/-- The class of worlds. -/
def InP (u : Ups w0) (w : World) : Prop := ∃ y, w = growP u y
/-- In whatever class, the operation yields v. -/
def Yall (P : Program) (ops : Array Oper) (w0 : World) (o : Oper) (v : Value) (a : Act) : Prop := ∀ u : Ups w0, YieldsIn P ops (InP u) o v a
theorem Yall.of_same {o : Oper} {v : Value} {a a' : Act} (hy : Yall P ops w0 o v a) (he : execOp a'.eval o = execOp a.eval o)
    (hw : Region.wanted o (yielded ops a'.tmps) = Region.wanted o (yielded ops a.tmps)) : Yall P ops w0 o v a' := fun u => (hy u).of_same he hw
/-- One operation, the one with number q being the new variable. -/
def stepX (P : Program) (ops : Array Oper) (w0 : World) (q : Nat) (i : Nat) (K : Act → Option Nat → Prop) (a : Act) (γ : Option Nat) : Prop :=
  ∃ o, ops[i]? = some o ∧ ((i = q ∧ γ = none ∧ ∀ g, w0.heap.size ≤ g → K (a.put o.dst (.pointer (some ⟨g, 0, none⟩))) (some g)) ∨ (i ≠ q ∧ ∃ v, Yall P ops w0 o v a ∧ K (a.put o.dst v) γ))
def wpX (P : Program) (md : Region.Mode) (ops : Array Oper) (w0 : World) (q n : Nat) (L : Array Bool → Act → Option Nat → Prop) : Nat → Array Bool → Act → Option Nat → Prop
  | 0, listed, a, γ => L listed a γ
  | f + 1, listed, a, γ =>
    Region.ready md ops listed ≠ [] ∧ ∀ i ∈ Region.ready md ops listed, i < n ∧ stepX P ops w0 q i (fun a' γ' => wpX P md ops w0 q n L f (listed.setIfInBounds i true) a' γ') a γ
/-- What holds of the world: the new variable, if it is there, lies in block g. -/
def Has (w0 : World) (t : TypeId) (zs : Array Value) (γ : Option Nat) (w : World) : Prop :=
  Below w0.heap.size w0 w ∧ ∀ g, γ = some g → w0.heap.size ≤ g ∧ Blk w g t zs
theorem wpAny_of_X {q n c : Nat} {t : TypeId} {zs : Array Value} {L : Array Bool → Act → Option Nat → Prop} {Q' : Exit → Act → World → Prop}
    (hq : ∀ o, ops[q]? = some o → o.guard = none ∧ ∀ (a : Act) (w : World), (execOp a.eval o).run P w = .ok (.value (.pointer (some ⟨w.heap.size, 0, none⟩))) (w.alloc (.cells zs t)))
    (hL : ∀ listed a γ w, Has w0 t zs γ w → L listed a γ → wpAny P md ops Q' c listed a w) :
    ∀ (f : Nat) (listed : Array Bool) (a : Act) (γ : Option Nat) (w : World), Has w0 t zs γ w → wpX P md ops w0 q n L f listed a γ → wpAny P md ops Q' (f + c) listed a w
  | 0, listed, a, γ, w, hw, h => by rw [Nat.zero_add]; exact hL _ _ _ _ hw h
  | f + 1, listed, a, γ, w, hw, h => by
    rw [show f + 1 + c = (f + c) + 1 by omega]
    refine ⟨fun h0 => absurd h0 h.1, fun i hi => ?_⟩
    obtain ⟨_, o, ho, hs⟩ := h.2 i hi
    rcases hs with ⟨hiq, hγ, hK⟩ | ⟨hiq, v, hy, hK⟩
    · subst hiq
      obtain ⟨hg, hrun⟩ := hq o ho
      unfold wpOp
      simp only [ho]
      rw [if_pos (by simp [Region.wanted, hg])]
      refine .inl ?_
      unfold Oper.wp
      rw [hrun]
      show wpAny P md ops Q' (f + c) _ _ _
      refine wpAny_of_X hq hL f _ _ (some w.heap.size) _ ⟨hw.1.alloc hw.1.size _, fun g hg => ?_⟩ (hK _ hw.1.size)
      injection hg with hg
      subst hg
      exact ⟨hw.1.size, Blk.new _ _ _⟩
    · let u : Ups w0 := ⟨fun w' => ∀ g, γ = some g → Blk w' g t zs, w, hw.1, fun g hg => (hw.2 g hg).2, fun w1 w2 h1 h2 g hg => (h1 g hg).below h2 (h1 g hg).lt⟩
      have hC : InP u w := ⟨w, growP_of u hw.1 (fun g hg => (hw.2 g hg).2)⟩
      exact wpOp_of_qOp (K := fun a' => wpX P md ops w0 q n L f (listed.setIfInBounds i true) a' γ) hC (fun a' w' hw' h' => by
        obtain ⟨y, rfl⟩ := hw'
        exact wpAny_of_X hq hL f _ _ γ _ ⟨growP_below u y, fun g hg => ⟨(hw.2 g hg).1, growP_p u y g hg⟩⟩ h') ((hy u).qOp ho hK)
theorem wpX_first {q n i : Nat} {oi : Oper} {v : Value} {L : Array Bool → Act → Option Nat → Prop} (hi : ops[i]? = some oi) (hsel : ∀ (j : Nat) (o : Oper) cs b, ops[j]? = some o → o.op ≠ .select cs b)
    (hs : Region.sinkB md ops n = true) (hc : Region.chainB md ops n = true) (hn : n < ops.size) (hin : i < n) (hiq : i ≠ q)
    (hdone : ∀ listed a γ, L listed a γ → ∀ j ∈ Region.ready md ops listed, n ≤ j) :
    ∀ (f : Nat) (listed : Array Bool) (a : Act) (γ : Option Nat), HeadInv md ops n listed →
      (∀ j oj, ops[j]? = some oj → j ≠ i → listed.getD j true = false → (∀ e ∈ oj.after, Region.binds md e = true → e.on ≠ i) → oi.apart ops oj = true) →
      i ∈ Region.ready md ops listed → Yall P ops w0 oi v a →
      wpX P md ops w0 q n L f (listed.setIfInBounds i true) (a.put oi.dst v) γ → wpX P md ops w0 q n L (f + 1) listed a γ := by
  intro f
  induction f with
  | zero =>
    intro listed a γ inv _ hr hy H
    have hun := (mem_ready.1 hr).1
    refine ⟨fun h => (by rw [h] at hr; cases hr), fun j hj => ?_⟩
    have hjn : j < n := by
      rcases Nat.lt_or_ge j n with h | h
      · exact h
      · exact absurd hj (tail_waits hs hc hn inv _ i rfl hin hun j h)
    refine ⟨hjn, ?_⟩
    by_cases hji : j = i
    · subst hji; exact ⟨oi, hi, .inr ⟨hiq, v, hy, H⟩⟩
    · have := hdone _ _ _ H j (ready_mono hj hji)
      omega
  | succ f ih =>
    intro listed a γ inv hfree hr hy H
    have hun := (mem_ready.1 hr).1
    refine ⟨fun h => (by rw [h] at hr; cases hr), fun j hj => ?_⟩
    have hjn : j < n := by
      rcases Nat.lt_or_ge j n with h | h
      · exact h
      · exact absurd hj (tail_waits hs hc hn inv _ i rfl hin hun j h)
    refine ⟨hjn, ?_⟩
    by_cases hji : j = i
    · subst hji; exact ⟨oi, hi, .inr ⟨hiq, v, hy, H⟩⟩
    · obtain ⟨_, oj, hoj, h1⟩ := H.2 j (ready_mono hj hji)
      obtain ⟨hjun, oj', hoj', hall⟩ := mem_ready.1 hj
      have : oj' = oj := Option.some.inj (hoj'.symm.trans hoj)
      subst this
      have hnot : ∀ e ∈ oj'.after, Region.binds md e = true → e.on ≠ i := fun e he hb heq => by
        have h1 := hall e he hb
        rw [heq, getD_both hun] at h1
        cases h1
      have hap := hfree j oj' hoj hji hjun hnot
      obtain ⟨a1, a2, a3⟩ := Oper.apart_spec hap
      have hsi := fun cs b => hsel i oi cs b hi
      have hsj := fun cs b => hsel j oj' cs b hoj
      have hfree' : ∀ k ok, ops[k]? = some ok → k ≠ i → (listed.setIfInBounds j true).getD k true = false →
          (∀ e ∈ ok.after, Region.binds md e = true → e.on ≠ i) → oi.apart ops ok = true := fun k ok hk hki hkun hno => by
        refine hfree k ok hk hki ?_ hno
        by_cases hjk : j = k
        · subst hjk; exact hjun
        · rw [getD_set_ne true hjk] at hkun; exact hkun
      have hr' := ready_mono hr (Ne.symm hji)
      refine ⟨oj', hoj, ?_⟩
      rcases h1 with ⟨hjq, hγ, hK⟩ | ⟨hjq, u, hu, hK⟩
      · refine .inl ⟨hjq, hγ, fun g hg => ?_⟩
        refine ih _ _ _ (inv.set hj hjn) hfree' hr' (hy.of_same (execOp_put oi hsi a oj'.dst _ a3) (wanted_put oi a oj'.dst _ a3)) ?_
        rw [Array.setIfInBounds_comm _ _ hji, ← Act.put_comm a v _ a2]
        exact hK g hg
      · refine .inr ⟨hjq, u, hu.of_same (execOp_put oj' hsj a oi.dst v a1).symm (wanted_put oj' a oi.dst v a1).symm, ?_⟩
        refine ih _ _ _ (inv.set hj hjn) hfree' hr' (hy.of_same (execOp_put oi hsi a oj'.dst _ a3) (wanted_put oi a oj'.dst _ a3)) ?_
        rw [Array.setIfInBounds_comm _ _ hji, ← Act.put_comm a v u a2]
        exact hK

/-- Slots that a list of operations does not write are as they were at its end. -/
theorem quiet_keeps {C : World → Prop} {aF : Act} {d : Nat} : ∀ (l : List Oper) (a : Act), wpQuiet P ops C (fun a' => a' = aF) l a → (∀ o ∈ l, o.dst ≠ some d) → aF.tmps.getD d undef = a.tmps.getD d undef ∧ aF.tmps.size = a.tmps.size
  | [], a, h, _ => by have : a = aF := h
                      subst this; exact ⟨rfl, rfl⟩
  | o :: l, a, h, hd => by
    have hput : ∀ v, (a.put o.dst v).tmps.getD d undef = a.tmps.getD d undef ∧ (a.put o.dst v).tmps.size = a.tmps.size := fun v => by
      cases ho : o.dst with
      | none => exact ⟨rfl, rfl⟩
      | some e =>
        have hne : e ≠ d := fun h => hd o (by simp) (by rw [ho, h])
        refine ⟨?_, by simp [Act.put]⟩
        simp only [Act.put]
        rw [Array.getD_eq_getD_getElem?, Array.getD_eq_getD_getElem?, Array.getElem?_setIfInBounds_ne hne]
    unfold wpQuiet at h
    split at h
    · obtain ⟨v, _, hK⟩ := h
      have := quiet_keeps l _ hK (fun o' ho' => hd o' (by simp [ho']))
      exact ⟨this.1.trans (hput v).1, this.2.trans (hput v).2⟩
    · have := quiet_keeps l _ h (fun o' ho' => hd o' (by simp [ho']))
      exact ⟨this.1.trans (hput _).1, this.2.trans (hput _).2⟩
/-- Each operation writes a slot of its own. -/
def ownDsts (size : Nat) : List Oper → Bool
  | [] => true
  | o :: l => (match o.dst with | some d => decide (d < size) && l.all (fun o' => !(o'.dst == some d)) | none => false) && ownDsts size l
/-- Nothing is asked. -/
def anyUps (w : World) : Ups w := ⟨fun _ => True, w, Below.refl _ _, trivial, fun _ _ _ _ => trivial⟩
theorem lexHead_succ (c f k : Nat) (listed : Array Bool) : Region.lexHead md ops c (f + 1) k listed = ((Region.ready md ops listed).contains k && Region.free md ops listed k && Region.lexHead md ops c f (k + 1) (listed.setIfInBounds k true)) := rfl
theorem wpX_lex {q c : Nat} {aF : Act} {oq : Oper} (hsel : Region.noSelect ops = true) (hs : Region.sinkB md ops (q + 1) = true) (hc : Region.chainB md ops (q + 1) = true) (hn : q + 1 < ops.size) (hoq : ops[q]? = some oq) :
    ∀ (l : List Oper) (k : Nat) (listed : Array Bool) (a : Act), (∀ j, j < l.length → l[j]? = ops[k + j]?) → k + l.length = q → HeadInv md ops (q + 1) listed →
    Region.lexHead md ops c (l.length + 1) k listed = true → ownDsts a.tmps.size l = true → (∀ u : Ups w0, wpQuiet P ops (InP u) (fun a' => a' = aF) l a) →
    wpX P md ops w0 q (q + 1) (fun listed' a' γ => Region.seqB md ops c (q + 1) listed' = true ∧ ∃ g, γ = some g ∧ w0.heap.size ≤ g ∧ a' = aF.put oq.dst (.pointer (some ⟨g, 0, none⟩))) (l.length + 1) listed a none
  | [], k, listed, a, _, hk, inv, hB, _, h => by
    have hkq : k = q := by simpa using hk
    subst hkq
    have ha : a = aF := h (anyUps w0)
    subst ha
    rw [List.length_nil, lexHead_succ] at hB
    simp only [Region.lexHead, Bool.and_eq_true] at hB
    obtain ⟨⟨hr, _⟩, hB'⟩ := hB
    have hr' : k ∈ Region.ready md ops listed := by simpa using hr
    refine ⟨fun h0 => (by rw [h0] at hr'; cases hr'), fun i hi => ?_⟩
    have hik : i = k := by
      rcases Decidable.em (i = k) with h | h
      · exact h
      · have h1 := seqB_ready hB' i (ready_mono hi h)
        exact absurd hi (tail_waits hs hc hn inv _ k rfl (by omega) (mem_ready.1 hr').1 i h1)
    subst hik
    exact ⟨by omega, oq, hoq, .inl ⟨rfl, rfl, fun g hg => ⟨hB', g, rfl, hg, rfl⟩⟩⟩
  | o :: l, k, listed, a, hl, hk, inv, hB, hD, h => by
    have h0 : ops[k]? = some o := by simpa using (hl 0 (by simp)).symm
    rw [List.length_cons, lexHead_succ] at hB
    simp only [Bool.and_eq_true] at hB
    obtain ⟨⟨hr, hf⟩, hB'⟩ := hB
    have hkq : k < q := by simp only [List.length_cons] at hk; omega
    have hr' : k ∈ Region.ready md ops listed := by simpa using hr
    unfold ownDsts at hD
    simp only [Bool.and_eq_true] at hD
    obtain ⟨hd, hD'⟩ := hD
    cases hdst : o.dst with
    | none => rw [hdst] at hd; cases hd
    | some d =>
      rw [hdst] at hd
      simp only [Bool.and_eq_true, decide_eq_true_eq, List.all_eq_true] at hd
      obtain ⟨hds, hne⟩ := hd
      have hne' : ∀ o' ∈ l, o'.dst ≠ some d := fun o' ho' e => by have := hne o' ho'; simp [e] at this
      have key : ∀ u : Ups w0, YieldsIn P ops (InP u) o (aF.tmps.getD d undef) a ∧ wpQuiet P ops (InP u) (fun a' => a' = aF) l (a.put o.dst (aF.tmps.getD d undef)) := fun u => by
        have hst : qOp P ops (InP u) k (wpQuiet P ops (InP u) (fun a' => a' = aF) l) a := by unfold qOp; simp only [h0]; exact h u
        obtain ⟨v, hy, hK⟩ := yieldsIn_of_qOp h0 hst
        have hv : aF.tmps.getD d undef = v := by
          rw [(quiet_keeps l _ hK hne').1, hdst]
          simp [Act.put, hds]
        rw [hv]
        exact ⟨hy, hK⟩
      refine wpX_first h0 (Region.noSelect_spec hsel) hs hc hn (by omega) (by omega) (fun listed' a' γ hL => seqB_ready hL.1) (l.length + 1) listed a none inv (Region.free_spec h0 hf) hr' (fun u => (key u).1) ?_
      refine wpX_lex hsel hs hc hn hoq l (k + 1) _ _ (fun j hj => by have := hl (j + 1) (by simp; omega); simpa [Nat.add_assoc, Nat.add_comm 1 j] using this) (by simp only [List.length_cons] at hk; omega) (inv.set hr' (by omega)) hB' ?_ (fun u => (key u).2)
      rw [hdst]
      simpa [Act.put] using hD'
end

section
variable {P : Program}
/-- One walk of the text's order, in whatever class of grown worlds; then the new variable, in whatever block; then the writes. -/
theorem wp_region_float {id : Nat} {Q : Exit → Act → World → Prop} {a : Act} {w : World} {l : List Oper} (q : Nat) (oq : Oper) (t : TypeId) (zs : Array Value) (hm : P.follows .mixedOrders = true) (hB : Region.lexTailB .any l.toArray (q + 1) = true)
    (hD : ownDsts a.tmps.size (l.take q) = true) (hoq : l[q]? = some oq) (hg : oq.guard = none) (hrun : ∀ (a : Act) (w : World), (execOp a.eval oq).run P w = .ok (.value (.pointer (some ⟨w.heap.size, 0, none⟩))) (w.alloc (.cells zs t)))
    (h : ∃ aF : Act, (∀ u : Ups w, wpQuiet P l.toArray (fun w' => ∃ y, w' = growP u y) (fun a' => a' = aF) (l.take q) a) ∧
      ∀ (w1 : World) (g : Nat), Below w.heap.size w w1 → w.heap.size ≤ g → Blk w1 g t zs → wpList P l.toArray Q (l.drop (q + 1)) (aF.put oq.dst (.pointer (some ⟨g, 0, none⟩))) w1) : (Code.region id l.toArray true).wp P Q a w := by
  obtain ⟨aF, hq, hfin⟩ := h
  simp only [Region.lexTailB, Bool.and_eq_true, decide_eq_true_eq] at hB
  obtain ⟨⟨⟨⟨hsel, hn⟩, hs⟩, hc⟩, hlex⟩ := hB
  have hn' : q + 1 < l.length := by simpa using hn
  have htl : (l.take q).length = q := by simp; omega
  have hdl : (l.drop (q + 1)).length = l.toArray.size - (q + 1) := by simp
  have inv0 : HeadInv .any l.toArray (q + 1) (Array.replicate l.toArray.size false) :=
    ⟨by simp, fun j oj _ hl => (by rw [getD_replicate_false] at hl; cases hl), fun t _ ht => getD_in (by simpa using ht) (getD_replicate_false _ _)⟩
  have H := wpX_lex (P := P) (w0 := w) (md := .any) (c := l.toArray.size - (q + 1)) (aF := aF) (oq := oq) hsel hs hc hn (by simpa using hoq) (l.take q) 0 _ a (fun j hj => by
    have hj' : j < q := by rw [htl] at hj; exact hj
    simp [hj']) (by simpa using htl) inv0 (by rw [htl]; exact hlex) hD hq
  refine wp_region_any hm ?_
  have := wpAny_of_X (P := P) (w0 := w) (t := t) (zs := zs) (Q' := Q) (c := l.toArray.size - (q + 1)) (fun o ho => by
      have : o = oq := Option.some.inj (ho.symm.trans (by simpa using hoq))
      subst this
      exact ⟨hg, hrun⟩) (fun listed a' γ w' hw' hL => by
    obtain ⟨hseq, g, rfl, hgs, rfl⟩ := hL
    have := wpAny_of_seq (md := .any) (Q' := Q) (l.drop (q + 1)) (q + 1) listed (aF.put oq.dst (.pointer (some ⟨g, 0, none⟩))) w' (fun j => by simp [List.getElem?_drop]) (by rw [hdl]; exact hseq) (hfin w' g hw'.1 hgs (hw'.2 g rfl).2)
    rwa [hdl] at this) _ _ _ none { w with drawn := w.drawn + 1 } ⟨(Below.refl w.heap.size w).drew, fun g hg => by cases hg⟩ H
  rw [htl, show q + 1 + (l.toArray.size - (q + 1)) = l.toArray.size by omega] at this
  exact this
end
end Go.Proofs.Ytpkeiabifoipoaa
