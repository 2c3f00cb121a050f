/- The machine on data: calls by contract; what is assigned, appended, stored. -/
import Derived.Test.YtpecmhdepggnoaaDmH
namespace Go.Proofs.Ytpecmhdepggnoaa
open Go.RowKit

/-! ### Calls -/
/-- What a call hands back. -/
def ResRel (w : World) (S : Nat → Prop) (w' : World) (v : Value) : AV → Prop
  | .own e m xs => OwnAt w' w.heap.size (fun b => S b ∨ (w.heap.size ≤ b ∧ b < w'.heap.size ∧ v.ownBlock ≠ some b)) e m xs v v.ownBlock
  | av => Rel w' (fun b => S b ∨ (w.heap.size ≤ b ∧ b < w'.heap.size)) av v
/-- The contract of a function on data: whatever stands for its arguments, in blocks that nobody writes meanwhile, it returns what stands for the result, and turns nothing that was there. -/
def CallOK (P : Program) (f : FuncId) (args : List AV) (res : AV) : Prop :=
  ∀ (w : World) (S : Nat → Prop) (vs : List Value), TabB w w.heap.size → (∀ b, S b → b < w.heap.size) → vs.length = args.length → (∀ (j : Nat) av v, args[j]? = some av → vs[j]? = some v → Rel w S av v) →
    Calls P f vs.toArray w fun e w' => ∃ v, e = .returned v ∧ Below w.heap.size w w' ∧ ResRel w S w' v res

/-- The contract of a function whose result has a slice in it that nobody else has: the slice's value r is named, what it owns is said apart. -/
def CallH (P : Program) (f : FuncId) (args : List AV) (e m : Nat) (xs : List (List AV)) (res : Value → AV) : Prop :=
  ∀ (w : World) (S : Nat → Prop) (vs : List Value), TabB w w.heap.size → (∀ b, S b → b < w.heap.size) → vs.length = args.length → (∀ (j : Nat) av v, args[j]? = some av → vs[j]? = some v → Rel w S av v) →
    Calls P f vs.toArray w fun x w' => ∃ v r, x = .returned v ∧ Below w.heap.size w w' ∧ OwnAt w' w.heap.size (fun b => S b ∨ (w.heap.size ≤ b ∧ b < w'.heap.size ∧ r.ownBlock ≠ some b)) e m xs r r.ownBlock ∧
      Rel w' (fun b => S b ∨ (w.heap.size ≤ b ∧ b < w'.heap.size ∧ r.ownBlock ≠ some b)) (res r) v

/-- A view, as it is handed to a callee. -/
def argv (st : ASt) : AV → AV
  | .nilsl => .ro []
  | .alias d => match st d with
    | .own _ _ xs => .ro xs
    | _ => .junk
  | .ref d o => match st d with
    | .box cs => .roAt cs o
    | _ => .junk
  | .into d i o => match st d with
    | .own _ _ xs => .roAt (xs.getD i []) o
    | _ => .junk
  | .clo f [] => .val (.func (.func f) #[] #[])
  | .clo _ _ => .junk
  | .own _ _ _ | .box _ | .held _ _ _ _ => .junk
  | av => av
/-- Nothing of the frame's own is lent to the callee. -/
def AV.noLoan : AV → Bool
  | .alias _ | .ref _ _ | .into _ _ _ => false
  | _ => true
/-- A result through which nothing can be reached that was lent. -/
def AV.FlatRes : AV → Prop
  | .own _ _ xs => ∀ x ∈ xs, ∀ av ∈ x, av.Flat
  | av => av.Flat

def okFn (P : Program) (f : Nat) : Bool := match P.funcs[f]? with
  | some fn => fn.body.isSome && !(fn.name == "runtime.NumGoroutine")
  | none => false
def okCall (P : Program) : Op → PO → Bool
  | .call { callee := .value (.func f), args, .. }, .call f' args' => f == f' && okFn P f && okOpds args.toList args'
  | _, _ => false
def okCallv : Op → PO → Bool
  | .call { callee := .value x, args, .. }, .callv x' args' => okOpd x x' && okOpds args.toList args'
  | _, _ => false

section
variable {P : Program} {w0 : Ent} {w : World} {S : Nat → Prop} {n : Lim} {st : ASt} {β : Bt} {a : Act} {o : Oper}
/-- The blocks that a callee may look into. -/
def Live (S : Nat → Prop) (w0 : Ent) (w : World) (β : Bt) (b : Nat) : Prop := Imm S w0 w β b ∨ ∃ k, β k = some b
theorem argv_rel (h : FR w0 S n st β a w) {av : AV} {v : Value} (hv : VOk w (Imm S w0 w β) st β a.tmps v av) : Rel w (Live S w0 w β) (argv st av) v ∧ (av.noLoan = true → Rel w (Imm S w0 w β) (argv st av) v) := by
  have up : ∀ {x : AV} {u : Value}, Rel w (Imm S w0 w β) x u → Rel w (Live S w0 w β) x u := fun hr => hr.mono (fun b hb => .inl hb) (fun _ _ _ => rfl)
  cases av <;> simp only [argv]
  case nilsl =>
    cases hv
    exact ⟨Rel.ro0 _ _, fun _ => Rel.ro0 _ _⟩
  case alias d =>
    obtain ⟨⟨e, m, xs, h1⟩, rfl⟩ := hv
    have hs := h.slot d
    rw [h1] at hs
    simp only [h1]
    refine ⟨?_, fun q => by cases q⟩
    have hs' : OwnAt w w0.base (Live S w0 w β) e m xs (a.tmps.getD d undef) (β d) := OwnAt.mono (w := w) (fun b hb => .inl hb) (fun _ _ _ => rfl) (fun _ _ => rfl) hs
    exact own_ro hs' fun g hg => .inr ⟨d, hg⟩
  case ref d q =>
    obtain ⟨⟨cs, h1⟩, g, hg, rfl⟩ := hv
    have hs := h.slot d
    rw [h1] at hs
    simp only [h1]
    refine ⟨?_, fun q => by cases q⟩
    have hs' : BoxAt w w0.base (Live S w0 w β) cs (a.tmps.getD d undef) (β d) := BoxAt.mono (w := w) (fun b hb => .inl hb) (fun _ _ _ => rfl) (fun _ _ => rfl) hs
    obtain ⟨g', hg', hr⟩ := box_at hs' (fun g hg => .inr ⟨d, hg⟩) q
    rw [hg] at hg'; injection hg' with hg'; subst hg'; exact hr
  case into d i q =>
    have hv' := hv
    obtain ⟨e, m, xs, g, h1, hi, hg, hvv⟩ := hv
    simp only [h1]
    refine ⟨?_, fun q => by cases q⟩
    obtain ⟨b, off, f, e1, hb, hcell, hrel⟩ := cells_ok h hv' (cs := xs.getD i []) (o := q) (by simp only [cellsOf, h1])
    rw [e1]
    have hbg : b = g := by rw [e1] at hvv; injection hvv with hvv; injection hvv with hvv; injection hvv
    exact Rel.roAt _ b off q f (.inr ⟨d, by rw [hbg]; exact hg⟩) hcell fun j av hj => up (hrel j av hj)
  case clo f ds =>
    obtain ⟨h1, rfl⟩ := hv
    cases ds with
    | nil => exact ⟨Rel.val _, fun _ => Rel.val _⟩
    | cons => exact ⟨Rel.junk _, fun _ => Rel.junk _⟩
  case own => exact hv.elim
  case box => exact hv.elim
  case held => exact hv.elim
  all_goals exact ⟨up hv, fun _ => hv⟩
theorem Live.lt (h : FR w0 S n st β a w) {b : Nat} (hb : Live S w0 w β b) : b < w.heap.size := by
  rcases hb with hb | ⟨k, hk⟩
  · exact h.lt hb
  · exact (h.home k b hk).2.2
/-- A result goes into a slot. -/
theorem put_res (h : FR w0 S n st β a w) {w' : World} {Sc : Nat → Prop} {res : AV} {v : Value} {d : Nat} (hd : (st d).isHome = false) (hn : n.In d) (hb : Below w.heap.size w w') (hr : ResRel w Sc w' v res)
    (hS : (∀ b, Sc b → Imm S w0 w β b) ∨ res.FlatRes) : ∃ β', FR w0 S n (st.put d res) β' (a.put (some d) v) w' := by
  have base : w0.base ≤ w.heap.size := h.bases
  have newImm : ∀ b, w.heap.size ≤ b → b < w'.heap.size → Imm S w0 w' β b := fun b h1 h2 => .inr ⟨h.new h1, h2, fun k hk => by have := (h.home k b hk).2.2; omega⟩
  by_cases hown : ∃ e m xs, res = .own e m xs
  · obtain ⟨e, m, xs, rfl⟩ := hown
    have hr' : OwnAt w' w.heap.size (fun b => Sc b ∨ (w.heap.size ≤ b ∧ b < w'.heap.size ∧ v.ownBlock ≠ some b)) e m xs v v.ownBlock := hr
    have hr2 := hr'
    obtain ⟨cells, hown, hm, h0, _, h1, hx, hrel⟩ := hr2
    refine ⟨_, h.put_home hb (bo := v.ownBlock) hd hn rfl (fun g hg => hown.lt g hg) (fun I hI hI2 => ?_)⟩
    simp only [SlotRel, if_pos]
    rw [getD_set_same' (by rw [h.size]; exact hn.1)]
    refine ⟨cells, own_mono hown base, hm, h0, rfl, h1, hx, fun j av hj => ?_⟩
    rcases hS with hS | hS
    · refine (hrel j av hj).mono (fun b hb => ?_) (fun _ _ _ => rfl)
      rcases hb with hb | hb
      · exact hI b (hS b hb)
      · exact hI2 b hb.1 hb.2.1 hb.2.2
    · have hmem := List.mem_of_getElem? hj
      rw [List.mem_flatten] at hmem
      obtain ⟨x, hx, hav⟩ := hmem
      exact (hrel j av hj).flat (hS x hx av hav)
  · have hr' : Rel w' (fun b => Sc b ∨ (w.heap.size ≤ b ∧ b < w'.heap.size)) res v := by
      cases res <;> first | exact hr | (exact absurd ⟨_, _, _, rfl⟩ hown)
    refine ⟨β, (h.world hb).put_imm hd hn ?_⟩
    rcases hS with hS | hS
    · refine hr'.mono (fun b hq => ?_) (fun _ _ _ => rfl)
      rcases hq with hq | hq
      · exact (hS b hq).grow hb.size
      · exact newImm b hq.1 hq.2
    · refine hr'.flat ?_
      cases res <;> first | exact hS | (exact absurd ⟨_, _, _, rfl⟩ hown)

/-- What a call that was carried out leaves. -/
def Called (P : Program) (w0 : Ent) (S : Nat → Prop) (n : Lim) (st : ASt) (a : Act) (w : World) (o : Oper) (d : Nat) (av : AV) : Prop :=
  ∃ f args, (execOp a.eval o).run P w = .ok (.enter f args) w ∧ Calls P f args w fun e w' => ∃ v β', e = .returned v ∧ FR w0 S n (st.put d av) β' (a.put (some d) v) w'
theorem opds_rel (h : FR w0 S n st β a w) : ∀ (xs : List Operand) (ys : List Opd), okOpds xs ys = true → (xs.map a.eval).length = (ys.map fun y => argv st (view st y)).length ∧
    (∀ (j : Nat) av v, (ys.map fun y => argv st (view st y))[j]? = some av → (xs.map a.eval)[j]? = some v → Rel w (Live S w0 w β) av v) ∧
    ((∀ y ∈ ys, (view st y).noLoan = true) → ∀ (j : Nat) av v, (ys.map fun y => argv st (view st y))[j]? = some av → (xs.map a.eval)[j]? = some v → Rel w (Imm S w0 w β) av v)
  | [], [], _ => ⟨rfl, by simp, by simp⟩
  | [], _ :: _, h => by simp [okOpds] at h
  | _ :: _, [], h => by simp [okOpds] at h
  | x :: xs, y :: ys, hok => by
    simp only [okOpds, Bool.and_eq_true] at hok
    obtain ⟨h1, h2, h3⟩ := opds_rel h xs ys hok.2
    have hr := argv_rel h (view_ok h hok.1)
    refine ⟨by simpa using h1, fun j av v ha hv => ?_, fun hl j av v ha hv => ?_⟩
    · cases j with
      | zero => simp at ha hv; subst ha; subst hv; exact hr.1
      | succ j => exact h2 j av v (by simpa using ha) (by simpa using hv)
    · cases j with
      | zero => simp at ha hv; subst ha; subst hv; exact hr.2 (hl y (by simp))
      | succ j => exact h3 (fun y hy => hl y (by simp [hy])) j av v (by simpa using ha) (by simpa using hv)
theorem ok_fn {f : Nat} (h : okFn P f = true) : ∃ fn c, P.funcs[f]? = some fn ∧ fn.body = some c ∧ (fn.name == "runtime.NumGoroutine") = false := by
  unfold okFn at h
  split at h
  · rename_i fn hf
    simp only [Bool.and_eq_true, Bool.not_eq_true'] at h
    obtain ⟨c, hc⟩ := Option.isSome_iff_exists.1 h.1
    exact ⟨fn, c, hf, hc, h.2⟩
  · cases h
theorem arr_map (g : Operand → Value) (xs : Array Operand) : Array.map g xs = (xs.toList.map g).toArray := Array.ext' (by simp)
theorem enter_run {f : Nat} {fn : Func} {c : Code} (h1 : P.funcs[f]? = some fn) (h2 : fn.body = some c) (h3 : (fn.name == "runtime.NumGoroutine") = false) (vs : Array Value) (w : World) : (callFunc f vs).run P w = .ok (.enter f vs) w := by
  have h3' : ¬ fn.name = "runtime.NumGoroutine" := by simpa using h3
  simp [callFunc, h1, h2, h3']
theorem call_run {f : Nat} {args : Array Operand} {ats : Array TypeId} (ho : o.op = .call { callee := .value (.func f), args, argTypes := ats }) (hf : okFn P f = true) : (execOp a.eval o).run P w = .ok (.enter f (args.toList.map a.eval).toArray) w := by
  obtain ⟨fn, c, h1, h2, h3⟩ := ok_fn hf
  have hr := fun vs => enter_run (P := P) h1 h2 h3 vs w
  simp only [execOp, ho, Sem.run_bind]
  have e : (resolve a.eval { callee := .value (.func f), args := args, argTypes := ats } o.type).run P w = .ok { target := .fn (.func f) #[], args := (args.toList.map a.eval).toArray } w := by
    simp only [resolve, arr_map]
    simp [Act.eval, Deferred.ofValue]
  rw [e]
  simp only [Result.andThen_ok, invoke, Array.append_empty]
  exact hr _
theorem call_ok {f : Nat} {args : List Opd} {res : AV} (h : FR w0 S n st β a w) (hok : okCall P o.op (.call f args) = true) (hc : CallOK P f (args.map fun y => argv st (view st y)) res)
    (hl : (∀ y ∈ args, (view st y).noLoan = true) ∨ res.FlatRes) {d : Nat} (hd : (st d).isHome = false) (hn : n.In d) : Called P w0 S n st a w o d res := by
  generalize ho : o.op = oo at hok
  unfold okCall at hok
  split at hok
  · rename_i he
    cases he
    simp only [Bool.and_eq_true, beq_iff_eq] at hok
    obtain ⟨⟨rfl, hf⟩, hargs⟩ := hok
    refine ⟨_, _, call_run ho hf, ?_⟩
    obtain ⟨q1, q2, q3⟩ := opds_rel h _ _ hargs
    by_cases hl2 : ∀ y ∈ args, (view st y).noLoan = true
    · refine (hc w (Imm S w0 w β) _ (h.tabs.mono h.bases) (fun b hb => h.lt hb) (by simpa using q1) (q3 hl2)).mono ?_
      rintro e w' ⟨v, rfl, hb, hr⟩
      obtain ⟨β', hf'⟩ := put_res h hd hn hb hr (.inl fun b hb => hb)
      exact ⟨v, β', rfl, hf'⟩
    · refine (hc w (Live S w0 w β) _ (h.tabs.mono h.bases) (fun b hb => hb.lt h) (by simpa using q1) q2).mono ?_
      rintro e w' ⟨v, rfl, hb, hr⟩
      obtain ⟨β', hf'⟩ := put_res h hd hn hb hr (.inr (hl.resolve_left hl2))
      exact ⟨v, β', rfl, hf'⟩
  · cases hok
/-- A slot that no code knows gets what a named slice owns. -/
theorem FR.put_held (h : FR w0 S n st β a w) {w' : World} (hb : Below w.heap.size w w') {g e m : Nat} {xs : List (List AV)} {r : Value} (hg : (st g).isHome = false) (hbo : ∀ b, r.ownBlock = some b → w.heap.size ≤ b ∧ b < w'.heap.size)
    (hnew : ∀ I : Nat → Prop, (∀ b, Imm S w0 w β b → I b) → (∀ b, w.heap.size ≤ b → b < w'.heap.size → r.ownBlock ≠ some b → I b) → OwnAt w' w0.base I e m xs r r.ownBlock) : FR w0 S n (st.put g (.held e m xs r)) (fun k => if k = g then r.ownBlock else β k) a w' := by
  have hβg : β g = none := by
    cases hq : β g with
    | none => rfl
    | some b => have := (h.home g b hq).1; rw [hg] at this; cases this
  have hI : ∀ b, Imm S w0 w β b → Imm S w0 w' (fun k => if k = g then r.ownBlock else β k) b := fun b hi => by
    have hlt := h.lt hi
    rcases hi with hi | hi
    · exact .inl hi
    · refine .inr ⟨hi.1, Nat.lt_of_lt_of_le hi.2.1 hb.size, fun k => ?_⟩
      by_cases hk : k = g
      · simp only [hk, if_pos]
        intro e; have := (hbo b e).1; omega
      · simp only [hk, if_false]; exact hi.2.2 k
  have ng : ∀ {t : Nat}, (st t).isHome = true → t ≠ g := fun ht e => by rw [e, hg] at ht; cases ht
  refine ⟨h.below.next hb, h.base, h.given, h.old, h.size, h.pin, h.defers, fun k b hk => ?_, fun i j b hi hj => ?_, fun k => ?_⟩
  · by_cases hkg : k = g
    · subst hkg
      simp only [if_pos] at hk
      obtain ⟨h1, h2⟩ := hbo b hk
      exact ⟨by rw [put_same]; rfl, h.new h1, h2⟩
    · simp only [hkg, if_false] at hk
      obtain ⟨h1, h2, h3⟩ := h.home k b hk
      exact ⟨by rw [put_ne hkg]; exact h1, h2, Nat.lt_of_lt_of_le h3 hb.size⟩
  · by_cases h1 : i = g <;> by_cases h2 : j = g <;> simp only [h1, h2, if_pos, if_false] at hi hj ⊢
    · have := (hbo b hi).1; have := (h.home j b hj).2.2; omega
    · have := (hbo b hj).1; have := (h.home i b hi).2.2; omega
    · exact h.inj i j b hi hj
  · by_cases hk : k = g
    · subst hk
      rw [put_same]
      simp only [SlotRel, if_pos]
      refine hnew _ hI fun b h1 h2 h3 => .inr ⟨h.new h1, h2, fun j => ?_⟩
      by_cases hj : j = k
      · simp only [hj, if_pos]; exact h3
      · simp only [hj, if_false]; intro e; have := (h.home j b e).2.2; omega
    · rw [put_ne hk]
      have h1 := (h.slot k).mono (w' := w') hI (fun b o hi => hb.cell (p := ⟨b, o, none⟩) (h.lt hi)) (fun b hq => hb.block b (h.home k b hq).2.2)
      revert h1
      cases hx : st k <;> simp only [SlotRel, hk, if_false] <;> intro h1
      case alias t =>
        obtain ⟨⟨e', m', ys, h2⟩, h3⟩ := h1
        exact ⟨⟨e', m', ys, by rw [put_ne (ng (by rw [h2]; rfl))]; exact h2⟩, h3⟩
      case ref t o =>
        obtain ⟨⟨cs, h2⟩, b, hq, h3⟩ := h1
        have ht := ng (t := t) (by rw [h2]; rfl)
        exact ⟨⟨cs, by rw [put_ne ht]; exact h2⟩, b, by simp only [ht, if_false]; exact hq, h3⟩
      case into t i o =>
        obtain ⟨e', m', ys, b, h2, h3, hq, h4⟩ := h1
        have ht := ng (t := t) (by rw [h2]; rfl)
        exact ⟨e', m', ys, b, by rw [put_ne ht]; exact h2, h3, by simp only [ht, if_false]; exact hq, h4⟩
      case clo f ds =>
        obtain ⟨h2, h3⟩ := h1
        exact ⟨fun t ht => by
          obtain ⟨cs, hc⟩ := h2 t ht
          exact ⟨cs, by rw [put_ne (ng (by rw [hc]; rfl))]; exact hc⟩, h3⟩
      all_goals exact h1
theorem callh_ok {f g e m : Nat} {args : List Opd} {xs : List (List AV)} {res : Value → AV} (h : FR w0 S n st β a w) (hok : okCall P o.op (.call f args) = true) (hc : CallH P f (args.map fun y => argv st (view st y)) e m xs res)
    (hl : ∀ y ∈ args, (view st y).noLoan = true) {d : Nat} (hd : (st d).isHome = false) (hg : (st g).isHome = false) (hgd : g ≠ d) (hn : n.In d) :
    ∃ f args, (execOp a.eval o).run P w = .ok (.enter f args) w ∧ Calls P f args w fun x w' => ∃ v r β', x = .returned v ∧ FR w0 S n ((st.put g (.held e m xs r)).put d (res r)) β' (a.put (some d) v) w' := by
  generalize ho : o.op = oo at hok
  unfold okCall at hok
  split at hok
  · rename_i he
    cases he
    simp only [Bool.and_eq_true, beq_iff_eq] at hok
    obtain ⟨⟨rfl, hf⟩, hargs⟩ := hok
    refine ⟨_, _, call_run ho hf, ?_⟩
    obtain ⟨q1, _, q3⟩ := opds_rel h _ _ hargs
    refine (hc w (Imm S w0 w β) _ (h.tabs.mono h.bases) (fun b hb => h.lt hb) (by simpa using q1) (q3 hl)).mono ?_
    rintro x w' ⟨v, r, rfl, hb, hown, hr⟩
    have hbase := h.bases
    obtain ⟨cells, how, hm, h0, hbo, h1, hx, hrel⟩ := hown
    have hf1 := h.put_held hb (g := g) (e := e) (m := m) (xs := xs) (r := r) hg (fun b hq => how.lt b hq) (fun I hI hI2 => by
      refine ⟨cells, own_mono how hbase, hm, h0, hbo, h1, hx, fun j av hj => (hrel j av hj).mono (fun b hb => ?_) (fun _ _ _ => rfl)⟩
      rcases hb with hb | hb
      · exact hI b hb
      · exact hI2 b hb.1 hb.2.1 hb.2.2)
    refine ⟨v, r, _, rfl, hf1.put_imm (by rw [put_ne (Ne.symm hgd)]; exact hd) hn (hr.mono (fun b hq => ?_) (fun _ _ _ => rfl))⟩
    rcases hq with hq | hq
    · have hlt := h.lt hq
      rcases hq with hq | hq
      · exact .inl hq
      · refine .inr ⟨hq.1, Nat.lt_of_lt_of_le hq.2.1 hb.size, fun k => ?_⟩
        by_cases hk : k = g
        · simp only [hk, if_pos]
          intro e; have := (how.lt b e).1; omega
        · simp only [hk, if_false]; exact hq.2.2 k
    · refine .inr ⟨h.new hq.1, hq.2.1, fun k => ?_⟩
      by_cases hk : k = g
      · simp only [hk, if_pos]; exact hq.2.2
      · simp only [hk, if_false]; intro e; have := (h.home k b e).2.2; omega
  · cases hok
/-- A call of a function that came with what it has caught. -/
theorem callc_ok {x : Opd} {f : Nat} {cs : List AV} {args : List Opd} {res : AV} (h : FR w0 S n st β a w) (hok : okCallv o.op (.callv x args) = true) (hx : view st x = .fnv f cs) (hf : okFn P f = true)
    (hc : CallOK P f ((args.map fun y => argv st (view st y)) ++ cs) res)
    (hl : (∀ y ∈ args, (view st y).noLoan = true) ∨ res.FlatRes) {d : Nat} (hd : (st d).isHome = false) (hn : n.In d) : Called P w0 S n st a w o d res := by
  generalize ho : o.op = oo at hok
  unfold okCallv at hok
  split at hok
  · rename_i y ags _ _ _ he
    cases he
    rw [Bool.and_eq_true] at hok
    obtain ⟨hxy, hargs⟩ := hok
    have hvo := view_ok h hxy
    rw [hx] at hvo
    have hvo' : Rel w (Imm S w0 w β) (.fnv f cs) (a.eval y) := hvo
    obtain ⟨us, hva, hul, hur⟩ : ∃ us : Array Value, a.eval y = .func (.func f) #[] us ∧ us.size = cs.length ∧ ∀ j av, cs[j]? = some av → Rel w (Imm S w0 w β) av (us.getD j undef) := by
      revert hvo'; generalize a.eval y = va; intro hvo'
      cases hvo' with
      | fnv _ _ us hl hr => exact ⟨us, rfl, hl, hr⟩
    obtain ⟨fn, c, h1, h2, h3⟩ := ok_fn hf
    have hrun : (execOp a.eval o).run P w = .ok (.enter f ((ags.toList.map a.eval) ++ us.toList).toArray) w := by
      simp only [execOp, ho, Sem.run_bind]
      have e : ∀ ats, (resolve a.eval { callee := .value y, args := ags, argTypes := ats } o.type).run P w = .ok { target := .fn (.func f) us, args := (ags.toList.map a.eval).toArray } w := fun ats => by
        simp only [resolve, arr_map]
        simp [hva, Deferred.ofValue]
      rw [e]
      simp only [Result.andThen_ok, invoke]
      rw [enter_run h1 h2 h3]
      simp
    refine ⟨_, _, hrun, ?_⟩
    obtain ⟨q1, q2, q3⟩ := opds_rel h _ _ hargs
    have hul2 : us.toList.length = cs.length := by simp [hul]
    have hur2 : ∀ (j : Nat) av v, cs[j]? = some av → us.toList[j]? = some v → Rel w (Imm S w0 w β) av v := fun j av v ha hv => by
      have := hur j av ha
      rwa [Array.getD_eq_getD_getElem?, ← Array.getElem?_toList, hv] at this
    have both : ∀ {I : Nat → Prop}, (∀ (j : Nat) av v, (args.map fun y => argv st (view st y))[j]? = some av → (ags.toList.map a.eval)[j]? = some v → Rel w I av v) → (∀ b, Imm S w0 w β b → I b) →
        ∀ (j : Nat) av v, ((args.map fun y => argv st (view st y)) ++ cs)[j]? = some av → (ags.toList.map a.eval ++ us.toList)[j]? = some v → Rel w I av v := fun {I} hq hI j av v ha hv => by
      rw [List.getElem?_append] at ha hv
      rw [q1] at hv
      split at ha
      · rename_i hlt; rw [if_pos hlt] at hv; exact hq j av v ha hv
      · rename_i hlt; rw [if_neg hlt] at hv; exact (hur2 _ av v ha hv).mono hI (fun _ _ _ => rfl)
    by_cases hl2 : ∀ y ∈ args, (view st y).noLoan = true
    · refine (hc w (Imm S w0 w β) _ (h.tabs.mono h.bases) (fun b hb => h.lt hb) (by simp at q1 ⊢; omega) (both (q3 hl2) fun _ h => h)).mono ?_
      rintro e w' ⟨v, rfl, hb, hr⟩
      obtain ⟨β', hf'⟩ := put_res h hd hn hb hr (.inl fun b hb => hb)
      exact ⟨v, β', rfl, hf'⟩
    · refine (hc w (Live S w0 w β) _ (h.tabs.mono h.bases) (fun b hb => hb.lt h) (by simp at q1 ⊢; omega) (both q2 fun _ h => .inl h)).mono ?_
      rintro e w' ⟨v, rfl, hb, hr⟩
      obtain ⟨β', hf'⟩ := put_res h hd hn hb hr (.inr (hl.resolve_left hl2))
      exact ⟨v, β', rfl, hf'⟩
  · cases hok
/-- A function: a closure, or a constant. -/
def AV.isFn (v : AV) (f : Nat) (ds : List Nat) : Prop := v = .clo f ds ∨ (v = .val (.func (.func f) #[] #[]) ∧ ds = [])
theorem callv_ok {x : Opd} {f : Nat} {ds : List Nat} {args : List Opd} {res : AV} (h : FR w0 S n st β a w) (hok : okCallv o.op (.callv x args) = true) (hx : (view st x).isFn f ds) (hf : okFn P f = true)
    (hc : CallOK P f ((args.map fun y => argv st (view st y)) ++ ds.map fun d => argv st (.ref d 0)) res)
    (hl : ((∀ y ∈ args, (view st y).noLoan = true) ∧ ds = []) ∨ res.FlatRes) {d : Nat} (hd : (st d).isHome = false) (hn : n.In d) : Called P w0 S n st a w o d res := by
  generalize ho : o.op = oo at hok
  unfold okCallv at hok
  split at hok
  · rename_i y ags _ _ _ he
    cases he
    rw [Bool.and_eq_true] at hok
    obtain ⟨hxy, hargs⟩ := hok
    have hvo := view_ok h hxy
    obtain ⟨hds, hva⟩ : (∀ d ∈ ds, ∃ cs, st d = .box cs) ∧ a.eval y = .func (.func f) #[] (ds.map fun d => a.tmps.getD d undef).toArray := by
      rcases hx with hx | ⟨hx, rfl⟩
      · rw [hx] at hvo; exact hvo
      · rw [hx] at hvo
        refine ⟨fun _ h => (by cases h), ?_⟩
        revert hvo; generalize a.eval y = va; intro hvo
        cases hvo; rfl
    obtain ⟨fn, c, h1, h2, h3⟩ := ok_fn hf
    have hrun : (execOp a.eval o).run P w = .ok (.enter f ((ags.toList.map a.eval) ++ ds.map fun d => a.tmps.getD d undef).toArray) w := by
      simp only [execOp, ho, Sem.run_bind]
      have e : ∀ ats, (resolve a.eval { callee := .value y, args := ags, argTypes := ats } o.type).run P w = .ok { target := .fn (.func f) (ds.map fun d => a.tmps.getD d undef).toArray, args := (ags.toList.map a.eval).toArray } w := fun ats => by
        simp only [resolve, arr_map]
        simp [hva, Deferred.ofValue]
      rw [e]
      simp only [Result.andThen_ok, invoke]
      rw [enter_run h1 h2 h3]
      simp
    refine ⟨_, _, hrun, ?_⟩
    obtain ⟨q1, q2, q3⟩ := opds_rel h _ _ hargs
    have hdl : ∀ (j : Nat) av v, (ds.map fun d => argv st (.ref d 0))[j]? = some av → (ds.map fun d => a.tmps.getD d undef)[j]? = some v → Rel w (Live S w0 w β) av v := fun j av v ha hv => by
      rw [List.getElem?_map, Option.map_eq_some_iff] at ha hv
      obtain ⟨t, ht, rfl⟩ := ha
      obtain ⟨t', ht', rfl⟩ := hv
      rw [ht] at ht'; injection ht' with ht'; subst ht'
      obtain ⟨cs, hcs⟩ := hds t (List.mem_of_getElem? ht)
      have hs := h.slot t
      rw [hcs] at hs
      obtain ⟨g, tt, cur, r1, r2, r3, _⟩ := hs
      exact (argv_rel h (av := .ref t 0) (v := a.tmps.getD t undef) ⟨⟨cs, hcs⟩, g, r1, r3⟩).1
    by_cases hl2 : (∀ y ∈ args, (view st y).noLoan = true) ∧ ds = []
    · obtain ⟨hl2, rfl⟩ := hl2
      simp only [List.map_nil, List.append_nil] at hc ⊢
      refine (hc w (Imm S w0 w β) _ (h.tabs.mono h.bases) (fun b hb => h.lt hb) (by simpa using q1) (q3 hl2)).mono ?_
      rintro e w' ⟨v, rfl, hb, hr⟩
      obtain ⟨β', hf'⟩ := put_res h hd hn hb hr (.inl fun b hb => hb)
      exact ⟨v, β', rfl, hf'⟩
    · refine (hc w (Live S w0 w β) _ (h.tabs.mono h.bases) (fun b hb => hb.lt h) (by simp at q1 ⊢; exact q1) (fun j av v ha hv => ?_)).mono ?_
      · rw [List.getElem?_append] at ha hv
        rw [q1] at hv
        split at ha
        · rename_i hlt; rw [if_pos hlt] at hv; exact q2 j av v ha hv
        · rename_i hlt; rw [if_neg hlt] at hv; exact hdl _ av v ha hv
      · rintro e w' ⟨v, rfl, hb, hr⟩
        obtain ⟨β', hf'⟩ := put_res h hd hn hb hr (.inr (hl.resolve_left hl2))
        exact ⟨v, β', rfl, hf'⟩
  · cases hok
end
end Go.Proofs.Ytpecmhdepggnoaa
