/- The machine on data: regions that draw their order. One walk of the text's order serves every order. -/
import Derived.Test.YtpecmhdepggnoaaDmK
import Derived.StillTail
namespace Go.Proofs.Ytpecmhdepggnoaa
open Go.RowKit

def Opd.slot : Opd → List Nat
  | .t k => [k]
  | _ => []
def optSlot : Option Opd → List Nat
  | some x => x.slot
  | none => []
def PO.slots : PO → List Nat
  | .mv x | .un _ x | .conv _ x | .load x | .loadr x | .loads _ x | .loadsr _ x | .fld _ x | .len x | .lens x | .ext _ x | .nilck x | .box x | .boxs x | .asg x | .eqnil _ x => x.slot
  | .pick c a b => c.slot ++ a.slot ++ b.slot
  | .bin _ x y | .eqs _ _ x y | .eqb _ x y | .idx _ x y | .idxr _ x y | .idxs x y | .minmax _ x y | .mk _ _ _ _ x y | .app _ _ _ x y | .apph _ _ _ x y | .appa _ _ _ x y _ | .store x y | .stores _ x y => x.slot ++ y.slot
  | .slc lo hi _ x | .slcs lo hi x => optSlot lo ++ optSlot hi ++ x.slot
  | .build _ ps => ps.flatMap fun p => p.2.2.slot
  | .mkfn _ cs => cs
  | .mkfnr _ cs => cs
  | .alloc _ => []
  | .never => []
  | .row _ _ ps => ps.flatMap Opd.slot
  | .rowr _ _ ps => ps.flatMap Opd.slot
  | .call _ xs => xs.flatMap Opd.slot
  | .callm _ xs => xs.flatMap Opd.slot
  | .callx _ xs => xs.flatMap Opd.slot
  | .callt _ xs _ => xs.flatMap Opd.slot
  | .callv x xs => x.slot ++ xs.flatMap Opd.slot
  | .callc x xs => x.slot ++ xs.flatMap Opd.slot
  | .callh _ xs => xs.flatMap Opd.slot
def POp.slots (p : POp) : List Nat := p.po.slots ++ (match p.guard with
  | some (s, _) => [s]
  | none => [])
def PO.head : PO → Bool
  | .asg _ | .app _ _ _ _ _ | .apph _ _ _ _ _ | .appa _ _ _ _ _ _ | .callh _ _ | .store _ _ | .stores _ _ _ | .eqnil _ _ | .callm _ _ | .callx _ _ | .callt _ _ _ => false
  | _ => true

/-- What an operation gives that only looks, makes or calls. -/
def HEval (P : Program) (st : ASt) (av : AV) : PO → Prop
  | .call f args => CallOK P f (args.map fun y => argv st (view st y)) av ∧ ((∀ y ∈ args, (view st y).noLoan = true) ∨ av.FlatRes)
  | .callv x args => ∃ f ds, (view st x).isFn f ds ∧ okFn P f = true ∧ CallOK P f ((args.map fun y => argv st (view st y)) ++ ds.map fun d => argv st (.ref d 0)) av ∧ (((∀ y ∈ args, (view st y).noLoan = true) ∧ ds = []) ∨ av.FlatRes)
  | .callc x args => ∃ f cs, view st x = .fnv f cs ∧ okFn P f = true ∧ CallOK P f ((args.map fun y => argv st (view st y)) ++ cs) av ∧ ((∀ y ∈ args, (view st y).noLoan = true) ∨ av.FlatRes)
  | po => (hv st po).1 ∧ av = (hv st po).2
def YS (P : Program) (st : ASt) (p : POp) (av : AV) : Prop :=
  (st p.dst).isHome = false ∧ match p.guard with
    | none => HEval P st av p.po
    | some (s, f) => ∃ v, st s = .val v ∧ ((v = .bool f ∧ HEval P st av p.po) ∨ (v ≠ .bool f ∧ av = .val undef))

section
variable {P : Program} {w0 : Ent} {w : World} {S : Nat → Prop} {n : Lim} {st : ASt} {β : Bt} {a : Act} {o : Oper}
theorem core_of_heval {d : Nat} {K : ASt → Prop} {po : PO} (hh : po.head = true) : opCore P st d K po ↔ ∃ av, (st d).isHome = false ∧ HEval P st av po ∧ K (st.put d av) := by
  cases po <;> simp only [opCore, HEval] <;> first | (cases hh; done) | skip
  case call f args =>
    constructor
    · rintro ⟨res, h1, h2, h3, h4⟩; exact ⟨res, h3, ⟨h1, h2⟩, h4⟩
    · rintro ⟨res, h3, ⟨h1, h2⟩, h4⟩; exact ⟨res, h1, h2, h3, h4⟩
  case callv x args =>
    constructor
    · rintro ⟨f, ds, res, h0, hf, h1, h2, h3, h4⟩; exact ⟨res, h3, ⟨f, ds, h0, hf, h1, h2⟩, h4⟩
    · rintro ⟨res, h3, ⟨f, ds, h0, hf, h1, h2⟩, h4⟩; exact ⟨f, ds, res, h0, hf, h1, h2, h3, h4⟩
  case callc x args =>
    constructor
    · rintro ⟨f, cs, res, h0, hf, h1, h2, h3, h4⟩; exact ⟨res, h3, ⟨f, cs, h0, hf, h1, h2⟩, h4⟩
    · rintro ⟨res, h3, ⟨f, cs, h0, hf, h1, h2⟩, h4⟩; exact ⟨f, cs, res, h0, hf, h1, h2, h3, h4⟩
  all_goals
    constructor
    · rintro ⟨h1, h2, h3⟩; exact ⟨_, h1, ⟨h2, rfl⟩, h3⟩
    · rintro ⟨_, h1, ⟨h2, rfl⟩, h3⟩; exact ⟨h1, h2, h3⟩
theorem step_of_ys {p : POp} {K : ASt → Prop} (hh : p.po.head = true) : opStep P st p K ↔ ∃ av, YS P st p av ∧ K (st.put p.dst av) := by
  unfold opStep YS
  cases p.guard with
  | none =>
    simp only
    rw [core_of_heval hh]
    constructor
    · rintro ⟨av, h1, h2, h3⟩; exact ⟨av, ⟨h1, h2⟩, h3⟩
    · rintro ⟨av, ⟨h1, h2⟩, h3⟩; exact ⟨av, h1, h2, h3⟩
  | some sf =>
    obtain ⟨s, f⟩ := sf
    simp only
    constructor
    · rintro ⟨v, hs, h1, h2⟩
      by_cases hbf : v = .bool f
      · obtain ⟨av, q1, q2, q3⟩ := (core_of_heval hh).1 (h1 hbf)
        exact ⟨av, ⟨q1, v, hs, .inl ⟨hbf, q2⟩⟩, q3⟩
      · obtain ⟨q1, q2⟩ := h2 hbf
        exact ⟨.val undef, ⟨q1, _, hs, .inr ⟨hbf, rfl⟩⟩, q2⟩
    · rintro ⟨av, ⟨q1, v, hs, q2⟩, q3⟩
      refine ⟨v, hs, fun e => ?_, fun e => ?_⟩
      · rcases q2 with ⟨_, q2⟩ | ⟨q2, _⟩
        · exact (core_of_heval hh).2 ⟨av, q1, q2, q3⟩
        · exact absurd e q2
      · rcases q2 with ⟨q2, _⟩ | ⟨_, q2⟩
        · exact absurd q2 e
        · exact ⟨q1, q2 ▸ q3⟩

/-- What views and their targets are does not hang on a slot that is neither looked at nor a home. -/
theorem view_put {d : Nat} {av : AV} {x : Opd} (hx : d ∉ x.slot) : view (st.put d av) x = view st x := by
  cases x with
  | t k =>
    have : k ≠ d := fun e => hx (by simp [Opd.slot, e])
    simp only [view, put_ne this]
  | _ => rfl
/-- A state that is there. -/
def Real (w0 : Ent) (S : Nat → Prop) (n : Lim) (st : ASt) : Prop := ∃ β a w, FR w0 S n st β a w
def AV.Tgt (st : ASt) : AV → Prop
  | .alias k => ∃ e m xs, st k = .own e m xs
  | .ref k _ => ∃ cs, st k = .box cs
  | .into k _ _ => ∃ e m xs, st k = .own e m xs
  | .clo _ ds => ∀ k ∈ ds, ∃ cs, st k = .box cs
  | _ => True
theorem slot_tgt (h : Real w0 S n st) (k : Nat) : (st k).Tgt st := by
  obtain ⟨β, a, w, h⟩ := h
  have hs := h.slot k
  revert hs
  cases hq : st k <;> simp only [SlotRel, AV.Tgt] <;> intro hs
  case alias => exact hs.1
  case ref => exact hs.1
  case into => obtain ⟨e, m, xs, _, h1, _⟩ := hs; exact ⟨e, m, xs, h1⟩
  case clo => exact hs.1
  all_goals trivial
theorem view_tgt (h : Real w0 S n st) (x : Opd) : (view st x).Tgt st := by
  cases x with
  | t k =>
    have := slot_tgt h k
    simp only [view]
    cases hq : st k <;> rw [hq] at this <;> simp only [AV.Tgt] at this ⊢
    case own e m xs => exact ⟨e, m, xs, hq⟩
    case box cs => exact ⟨cs, hq⟩
    all_goals exact this
  | _ => trivial
theorem ne_home {k d : Nat} (hd : (st d).isHome = false) (hk : (st k).isHome = true) : k ≠ d := fun e => by rw [e, hd] at hk; cases hk
section
variable {d : Nat} {u : AV} (hd : (st d).isHome = false)
include hd
theorem row_put {v : AV} (hv : v.Tgt st) : rowOf (st.put d u) v = rowOf st v := by
  cases v <;> simp only [rowOf]
  case alias k => obtain ⟨e, m, xs, h1⟩ := hv; rw [put_ne (ne_home hd (by rw [h1]; rfl))]
theorem cells_put {v : AV} (hv : v.Tgt st) : cellsOf (st.put d u) v = cellsOf st v := by
  cases v <;> simp only [cellsOf]
  case ref k q => obtain ⟨cs, h1⟩ := hv; rw [put_ne (ne_home hd (by rw [h1]; rfl))]
  case into k i q => obtain ⟨e, m, xs, h1⟩ := hv; rw [put_ne (ne_home hd (by rw [h1]; rfl))]
theorem argv_put {v : AV} (hv : v.Tgt st) : argv (st.put d u) v = argv st v := by
  cases v <;> simp only [argv]
  case alias k => obtain ⟨e, m, xs, h1⟩ := hv; rw [put_ne (ne_home hd (by rw [h1]; rfl))]
  case ref k q => obtain ⟨cs, h1⟩ := hv; rw [put_ne (ne_home hd (by rw [h1]; rfl))]
  case into k i q => obtain ⟨e, m, xs, h1⟩ := hv; rw [put_ne (ne_home hd (by rw [h1]; rfl))]
  case clo f ds => cases ds <;> rfl
end
theorem map_views {d : Nat} {u : AV} (h : Real w0 S n st) (hd : (st d).isHome = false) {xs : List Opd} (hx : d ∉ xs.flatMap Opd.slot) : (xs.map fun y => argv (st.put d u) (view (st.put d u) y)) = xs.map fun y => argv st (view st y) :=
  List.map_congr_left fun y hy => by rw [view_put (fun q => hx (List.mem_flatMap.2 ⟨y, hy, q⟩)), argv_put hd (view_tgt h y)]
theorem bnd_put {d k : Nat} {u : AV} {lo : Option Opd} (hx : d ∉ optSlot lo) : bnd (st.put d u) k lo = bnd st k lo := by
  cases lo with
  | none => rfl
  | some x => simp only [bnd]; rw [view_put hx]
/-- What an operation gives does not hang on what it does not look at. -/
theorem hv_put {d : Nat} {u : AV} (h : Real w0 S n st) (hd : (st d).isHome = false) {po : PO} (hx : d ∉ po.slots) : hv (st.put d u) po = hv st po := by
  cases po <;> (try simp only [PO.slots, List.mem_append, not_or] at hx) <;> try simp only [hv]
  case mv => rw [view_put hx]
  case pick => rw [view_put hx.1.1, view_put hx.1.2, view_put hx.2]
  case bin => rw [view_put hx.1, view_put hx.2]
  case eqs => rw [view_put hx.1, view_put hx.2]
  case eqb => rw [view_put hx.1, view_put hx.2]
  case un => rw [view_put hx]
  case conv => rw [view_put hx]
  case load => rw [view_put hx, cells_put hd (view_tgt h _)]
  case loadr => rw [view_put hx]
  case idxr => rw [view_put hx.1, view_put hx.2]
  case loads => rw [view_put hx, cells_put hd (view_tgt h _)]
  case loadsr => rw [view_put hx]
  case fld => rw [view_put hx]
  case idx m x i =>
    rw [view_put hx.1, view_put hx.2]
    have ht := view_tgt h x
    revert ht
    generalize view st i = vi
    cases hq : view st x <;> intro ht
    case alias k =>
      obtain ⟨e, m', xs, h1⟩ := ht
      have e1 : st.put d u k = st k := put_ne (ne_home hd (by rw [h1]; rfl))
      cases vi <;> first | rfl | skip
      rename_i v
      cases v <;> first | rfl | (simp only [e1])
    all_goals
      cases vi <;> first | rfl | skip
      try (rename_i v; cases v <;> rfl)
  case idxs => rw [view_put hx.1, view_put hx.2]
  case len => rw [view_put hx, row_put hd (view_tgt h _)]
  case lens => rw [view_put hx]
  case ext => rw [view_put hx]
  case nilck => rw [view_put hx]
  case slc => rw [view_put hx.2, bnd_put hx.1.1]; simp only [bnd_put hx.1.2]
  case slcs => rw [view_put hx.2, bnd_put hx.1.1]; simp only [bnd_put hx.1.2]
  case build z ps =>
    have : (ps.map fun p => (p.1, p.2.1, view (st.put d u) p.2.2)) = ps.map fun p => (p.1, p.2.1, view st p.2.2) := List.map_congr_left fun p hp => by rw [view_put (fun q => hx (List.mem_flatMap.2 ⟨p, hp, q⟩))]
    rw [this]
  case minmax => rw [view_put hx.1, view_put hx.2]
  case mkfn f cs =>
    congr 1
    refine propext ⟨fun q k hk => ?_, fun q k hk => ?_⟩
    · have := q k hk; rwa [put_ne (fun e : k = d => hx (e ▸ hk))] at this
    · rw [put_ne (fun e : k = d => hx (e ▸ hk))]; exact q k hk
  case mkfnr f cs =>
    have e1 : ∀ k ∈ cs, st.put d u k = st k := fun k hk => put_ne (fun e : k = d => hx (e ▸ hk))
    have e2 : cs.map (st.put d u) = cs.map st := List.map_congr_left e1
    rw [e2]
    congr 1
    refine propext ⟨fun q k hk => ?_, fun q k hk => ?_⟩
    · have := q k hk; rwa [e1 k hk] at this
    · rw [e1 k hk]; exact q k hk
  case box => rw [view_put hx]
  case boxs => rw [view_put hx]
  case row e m ps =>
    have e1 : ∀ p ∈ ps, view (st.put d u) p = view st p := fun p hp => view_put (fun q => hx (List.mem_flatMap.2 ⟨p, hp, q⟩))
    have e2 : (ps.map fun p => (elemOf m (view (st.put d u) p)).2) = ps.map fun p => (elemOf m (view st p)).2 := List.map_congr_left fun p hp => by rw [e1 p hp]
    rw [e2]
    congr 1
    refine propext ⟨fun q => ⟨q.1, fun p hp => ?_, q.2.2⟩, fun q => ⟨q.1, fun p hp => ?_, q.2.2⟩⟩
    · rw [← e1 p hp]; exact q.2.1 p hp
    · rw [e1 p hp]; exact q.2.1 p hp
  case rowr e m ps =>
    have e1 : ∀ p ∈ ps, view (st.put d u) p = view st p := fun p hp => view_put (fun q => hx (List.mem_flatMap.2 ⟨p, hp, q⟩))
    have e2 : (ps.map fun p => (elemOf m (view (st.put d u) p)).2) = ps.map fun p => (elemOf m (view st p)).2 := List.map_congr_left fun p hp => by rw [e1 p hp]
    rw [e2]
    congr 1
    refine propext ⟨fun q => ⟨q.1, fun p hp => ?_, q.2.2⟩, fun q => ⟨q.1, fun p hp => ?_, q.2.2⟩⟩
    · rw [← e1 p hp]; exact q.2.1 p hp
    · rw [e1 p hp]; exact q.2.1 p hp
  case mk => rw [view_put hx.1, view_put hx.2]
theorem heval_put {d : Nat} {u av : AV} (h : Real w0 S n st) (hd : (st d).isHome = false) {po : PO} (hx : d ∉ po.slots) : HEval P (st.put d u) av po ↔ HEval P st av po := by
  have loan : ∀ {xs : List Opd}, d ∉ xs.flatMap Opd.slot → ((∀ y ∈ xs, (view (st.put d u) y).noLoan = true) ↔ ∀ y ∈ xs, (view st y).noLoan = true) := fun {xs} hx => by
    constructor
    · intro q y hy; have := q y hy; rwa [view_put (fun q => hx (List.mem_flatMap.2 ⟨y, hy, q⟩))] at this
    · intro q y hy; rw [view_put (fun q => hx (List.mem_flatMap.2 ⟨y, hy, q⟩))]; exact q y hy
  cases po with
  | call f args => simp only [HEval]; rw [map_views h hd hx, loan hx]
  | callv x args =>
    simp only [PO.slots, List.mem_append, not_or] at hx
    simp only [HEval]
    rw [view_put hx.1, map_views h hd hx.2, loan hx.2]
    have key : ∀ f ds, (view st x).isFn f ds → (ds.map fun t => argv (st.put d u) (.ref t 0)) = ds.map fun t => argv st (.ref t 0) := fun f ds hc => by
      rcases hc with hc | ⟨_, rfl⟩
      rotate_left
      · rfl
      have ht := view_tgt h x
      rw [hc] at ht
      exact List.map_congr_left fun t hm => argv_put hd (ht t hm)
    constructor
    · rintro ⟨f, ds, h1, h2, h3, h4⟩; rw [key f ds h1] at h3; exact ⟨f, ds, h1, h2, h3, h4⟩
    · rintro ⟨f, ds, h1, h2, h3, h4⟩; rw [← key f ds h1] at h3; exact ⟨f, ds, h1, h2, h3, h4⟩
  | callc x args =>
    simp only [PO.slots, List.mem_append, not_or] at hx
    simp only [HEval]
    rw [view_put hx.1, map_views h hd hx.2, loan hx.2]
  | _ => simp only [HEval]; rw [hv_put h hd hx]
theorem ys_put {d : Nat} {u av : AV} {p : POp} (h : Real w0 S n st) (hd : (st d).isHome = false) (hx : d ∉ p.slots) (hne : p.dst ≠ d) : YS P (st.put d u) p av ↔ YS P st p av := by
  simp only [POp.slots, List.mem_append, not_or] at hx
  unfold YS
  rw [put_ne hne]
  cases hg : p.guard with
  | none => simp only; rw [heval_put h hd hx.1]
  | some sf =>
    obtain ⟨s, f⟩ := sf
    have hs : s ≠ d := fun e => by
      have := hx.2
      rw [hg] at this
      exact this (by simp [e])
    simp only
    rw [put_ne hs, heval_put h hd hx.1]
/-- A state behind such an operation is there too. -/
theorem real_step {ops : Array Oper} {p : POp} {av : AV} (h : Real w0 S n st) (hh : p.po.head = true) (hok : okOper P n ops o p = true) (hy : YS P st p av) : Real w0 S n (st.put p.dst av) := by
  obtain ⟨β, a, w, h⟩ := h
  have hs : opStep P st p (fun st' => st' = st.put p.dst av) := (step_of_ys hh).2 ⟨av, hy, rfl⟩
  have := step_ok (Q := fun _ _ _ => False) (N := fun a' w' => Real w0 S n (st.put p.dst av)) h hok hs (fun st' β' a' w' hf e => ⟨β', a', w', e ▸ hf⟩)
  split at this
  · revert this
    unfold Oper.wp
    generalize (execOp a.eval o).run P w = r
    cases r with
    | ok x w' =>
      cases x <;> simp only [Oper.upon] <;> intro this <;> first | exact this | (exact this.elim) | skip
      · obtain ⟨e, w'', fr, hr, _⟩ := this []
        cases e with
        | returned v => exact hr
        | panicked c => exact hr.elim
        | outgrown => obtain ⟨_, _, hr⟩ := hr; exact hr.elim
      · obtain ⟨v, w'', hr, _⟩ := this default []; exact hr
    | halt x w' => cases x <;> simp only [Oper.upon] <;> exact fun h => h.elim
  · exact this

/-! ### Whatever order -/
def POp.apart (p q : POp) : Bool := p.dst != q.dst && !q.slots.contains p.dst && !p.slots.contains q.dst
theorem apart_spec {p q : POp} (h : p.apart q = true) : p.dst ≠ q.dst ∧ p.dst ∉ q.slots ∧ q.dst ∉ p.slots := by
  simp only [POp.apart, Bool.and_eq_true, bne_iff_ne, Bool.not_eq_true', List.contains_eq_mem, decide_eq_false_iff_not] at h
  exact ⟨h.1.1, h.1.2, h.2⟩
/-- Operation i may come first: all that have not come up wait for it, or have nothing to do with it. -/
def pFree (ops : Array Oper) (ps : List POp) (n0 : Nat) (listed : Array Bool) (i : Nat) : Bool :=
  match ps[i]? with
  | none => false
  | some p => (List.range n0).all fun j => j == i || listed.getD j true || Region.waitsFor .any ops j i || (match ps[j]? with
      | some q => p.apart q
      | none => true)
def pLex (ops : Array Oper) (ps : List POp) (n0 g : Nat) : Nat → Nat → Array Bool → Bool
  | 0, k, listed => Region.seqB .any ops g k listed
  | f + 1, k, listed => (Region.ready .any ops listed).contains k && pFree ops ps n0 listed k && pLex ops ps n0 g f (k + 1) (listed.setIfInBounds k true)
/-- How many operations lead a region that have no effect but their value. -/
def heads (ps : List POp) : Nat := (ps.takeWhile fun p => p.po.head).length
def drawOK0 (ops : Array Oper) (ps : List POp) : Bool :=
  (decide (heads ps = ops.size) || (decide (heads ps < ops.size) && Region.sinkB .any ops (heads ps) && Region.chainB .any ops (heads ps))) && pLex ops ps (heads ps) (ops.size - heads ps) (heads ps) 0 (Array.replicate ops.size false)

/-- The heads, in whatever order. -/
def wpS (P : Program) (ops : Array Oper) (ps : List POp) (n0 : Nat) (L : Array Bool → ASt → Prop) : Nat → Array Bool → ASt → Prop
  | 0, listed, st => L listed st
  | f + 1, listed, st => Region.ready .any ops listed ≠ [] ∧ ∀ i ∈ Region.ready .any ops listed, i < n0 ∧ ∃ p, ps[i]? = some p ∧ ∃ av, YS P st p av ∧ wpS P ops ps n0 L f (listed.setIfInBounds i true) (st.put p.dst av)
theorem okOps_at {ops : Array Oper} : ∀ (os : List Oper) (ps : List POp), okOps P n ops os ps = true → os.length = ps.length ∧ ∀ (i : Nat) o p, os[i]? = some o → ps[i]? = some p → okOper P n ops o p = true
  | [], [], _ => ⟨rfl, by simp⟩
  | [], _ :: _, h => by simp [okOps] at h
  | _ :: _, [], h => by simp [okOps] at h
  | o :: os, p :: ps, h => by
    simp only [okOps, Bool.and_eq_true] at h
    obtain ⟨h1, h2⟩ := okOps_at os ps h.2
    refine ⟨by simp [h1], fun i o' p' ho hp => ?_⟩
    cases i with
    | zero => simp at ho hp; subst ho; subst hp; exact h.1
    | succ i => exact h2 i o' p' (by simpa using ho) (by simpa using hp)
theorem wpAny_of_S {ops : Array Oper} {ps : List POp} {n0 g : Nat} {L : Array Bool → ASt → Prop} {Q : Exit → Act → World → Prop} (hok : okOps P n ops ops.toList ps = true) (hh : ∀ (i : Nat) p, i < n0 → ps[i]? = some p → p.po.head = true)
    (hL : ∀ listed st β a w, FR w0 S n st β a w → L listed st → wpAny P .any ops Q g listed a w) :
    ∀ (f : Nat) (listed : Array Bool) (st : ASt) (β : Bt) (a : Act) (w : World), FR w0 S n st β a w → wpS P ops ps n0 L f listed st → wpAny P .any ops Q (f + g) listed a w
  | 0, listed, st, β, a, w, h, hs => by rw [Nat.zero_add]; exact hL _ _ _ _ _ h hs
  | f + 1, listed, st, β, a, w, h, hs => by
    rw [show f + 1 + g = (f + g) + 1 by omega]
    refine ⟨fun h0 => absurd h0 hs.1, fun i hi => ?_⟩
    obtain ⟨hin, p, hp, av, hy, hn⟩ := hs.2 i hi
    obtain ⟨_, o, ho, _⟩ := mem_ready.1 hi
    have hop := (okOps_at _ _ hok).2 i o p (by simpa using ho) hp
    unfold wpOp
    rw [ho]
    have := step_ok (Q := Q) (N := wpAny P .any ops Q (f + g) (listed.setIfInBounds i true)) h hop ((step_of_ys (K := fun st' => st' = st.put p.dst av) (hh i p hin hp)).2 ⟨av, hy, rfl⟩) (fun st' β' a' w' hf e => wpAny_of_S hok hh hL f _ _ _ _ _ (e ▸ hf) hn)
    simp only
    split
    · rename_i hw; rw [if_pos hw] at this; exact .inl this
    · rename_i hw; rw [if_neg hw] at this; exact this
theorem wpS_first {ops : Array Oper} {ps : List POp} {n0 i : Nat} {p : POp} {av : AV} {L : Array Bool → ASt → Prop} (hok : okOps P n ops ops.toList ps = true) (hh : ∀ (i : Nat) p, i < n0 → ps[i]? = some p → p.po.head = true) (hp : ps[i]? = some p) (hin : i < n0)
    (hlow : ∀ listed, HeadInv .any ops n0 listed → i ∈ Region.ready .any ops listed → ∀ j ∈ Region.ready .any ops listed, j < n0) (hdone : ∀ listed st, L listed st → ∀ j ∈ Region.ready .any ops listed, n0 ≤ j) :
    ∀ (f : Nat) (listed : Array Bool) (st : ASt), Real w0 S n st → HeadInv .any ops n0 listed →
      (∀ j q, ps[j]? = some q → j < n0 → j ≠ i → listed.getD j true = false → Region.waitsFor .any ops j i = false → p.apart q = true) →
      i ∈ Region.ready .any ops listed → YS P st p av → wpS P ops ps n0 L f (listed.setIfInBounds i true) (st.put p.dst av) → wpS P ops ps n0 L (f + 1) listed st := by
  intro f
  have nw : ∀ {listed : Array Bool} {j : Nat}, i ∈ Region.ready .any ops listed → j ∈ Region.ready .any ops listed → Region.waitsFor .any ops j i = false := fun {listed j} hr hj => by
    cases hq : Region.waitsFor .any ops j i with
    | false => rfl
    | true =>
      obtain ⟨oj, hoj, e, he, hb, hon⟩ := Region.waitsFor_spec hq
      obtain ⟨_, oj', hoj', hall⟩ := mem_ready.1 hj
      rw [hoj] at hoj'; injection hoj' with hoj'; subst hoj'
      have h1 := hall e he hb
      rw [hon, getD_both (mem_ready.1 hr).1] at h1
      cases h1
  induction f with
  | zero =>
    intro listed st _ inv _ hr hy H
    refine ⟨fun h => (by rw [h] at hr; cases hr), fun j hj => ?_⟩
    have hjn := hlow listed inv hr j hj
    refine ⟨hjn, ?_⟩
    by_cases hji : j = i
    · subst hji; exact ⟨p, hp, av, hy, H⟩
    · have := hdone _ _ H j (ready_mono hj hji); omega
  | succ f ih =>
    intro listed st hreal inv hfree hr hy H
    refine ⟨fun h => (by rw [h] at hr; cases hr), fun j hj => ?_⟩
    have hjn := hlow listed inv hr j hj
    refine ⟨hjn, ?_⟩
    by_cases hji : j = i
    · subst hji; exact ⟨p, hp, av, hy, H⟩
    · obtain ⟨_, q, hq, av2, hy2, H2⟩ := H.2 j (ready_mono hj hji)
      have hap := apart_spec (hfree j q hq hjn hji (mem_ready.1 hj).1 (nw hr hj))
      have hy2' : YS P st q av2 := (ys_put hreal hy.1 hap.2.1 (Ne.symm hap.1)).1 hy2
      refine ⟨q, hq, av2, hy2', ?_⟩
      obtain ⟨_, oj, hoj, _⟩ := mem_ready.1 hj
      have hokj := (okOps_at _ _ hok).2 j oj q (by simpa using hoj) hq
      refine ih (listed.setIfInBounds j true) (st.put q.dst av2) (real_step hreal (hh j q hjn hq) hokj hy2') (inv.set hj hjn) (fun k r hk hkn hki hun hw => ?_) (ready_mono hr (Ne.symm hji)) ((ys_put hreal hy2'.1 hap.2.2 hap.1).2 hy) ?_
      · refine hfree k r hk hkn hki ?_ hw
        by_cases hkj : k = j
        · subst hkj; exact (mem_ready.1 hj).1
        · rw [getD_set_ne true (Ne.symm hkj)] at hun; exact hun
      · have e : (st.put q.dst av2).put p.dst av = (st.put p.dst av).put q.dst av2 := by
          funext k
          simp only [put_at]
          by_cases h1 : k = p.dst
          · rw [if_pos h1, if_neg (fun e => hap.1 (h1.symm.trans e)), if_pos h1]
          · rw [if_neg h1, if_neg h1]
        rw [e, Array.setIfInBounds_comm _ _ hji]
        exact H2
theorem wpS_lex {ops : Array Oper} {ps : List POp} {n0 g : Nat} {K : ASt → Prop} (hok : okOps P n ops ops.toList ps = true) (hh : ∀ (i : Nat) p, i < n0 → ps[i]? = some p → p.po.head = true)
    (hlow : ∀ i, i < n0 → ∀ listed, HeadInv .any ops n0 listed → i ∈ Region.ready .any ops listed → ∀ j ∈ Region.ready .any ops listed, j < n0) :
    ∀ (l : List POp) (k : Nat) (listed : Array Bool) (st : ASt), (∀ j, j < l.length → l[j]? = ps[k + j]?) → k + l.length = n0 → n0 ≤ ops.size → Real w0 S n st → HeadInv .any ops n0 listed → pLex ops ps n0 g l.length k listed = true → opsWP P l K st →
      wpS P ops ps n0 (fun listed' st' => Region.seqB .any ops g n0 listed' = true ∧ K st') l.length listed st
  | [], k, listed, st, _, hk, _, _, _, hB, h => by
    have : k = n0 := by simpa using hk
    subst this
    exact ⟨by simpa [pLex] using hB, h⟩
  | p :: l, k, listed, st, hl, hk, hsz, hreal, inv, hB, h => by
    have hp : ps[k]? = some p := by simpa using (hl 0 (by simp)).symm
    simp only [List.length_cons, pLex, Bool.and_eq_true] at hB
    obtain ⟨⟨hr, hf⟩, hB'⟩ := hB
    have hkn : k < n0 := by simp only [List.length_cons] at hk; omega
    have hr' : k ∈ Region.ready .any ops listed := by simpa using hr
    obtain ⟨_, o, ho, _⟩ := mem_ready.1 hr'
    have hop := (okOps_at _ _ hok).2 k o p (by simpa using ho) hp
    obtain ⟨av, hy, hK⟩ := (step_of_ys (hh k p hkn hp)).1 h
    refine wpS_first hok hh hp hkn (hlow k hkn) (fun _ _ hL => seqB_ready hL.1) l.length listed st hreal inv (fun j q hq hjn hji hun hw => ?_) hr' hy ?_
    · simp only [pFree, hp, List.all_eq_true, List.mem_range] at hf
      have := hf j hjn
      simp only [Bool.or_eq_true, beq_iff_eq, hji, false_or, hun, Bool.false_eq_true, hw, hq] at this
      exact this
    · exact wpS_lex hok hh hlow l (k + 1) _ _ (fun j hj => by have := hl (j + 1) (by simp; omega); simpa [Nat.add_assoc, Nat.add_comm 1 j] using this) (by simp only [List.length_cons] at hk; omega) hsz (real_step hreal (hh k p hkn hp) hop hy) (inv.set hr' hkn) hB' hK
theorem opsWP_append {K : ASt → Prop} : ∀ (l r : List POp) (st : ASt), opsWP P (l ++ r) K st ↔ opsWP P l (opsWP P r K) st
  | [], _, _ => Iff.rfl
  | p :: l, r, st => by
    simp only [List.cons_append, opsWP]
    have : opsWP P (l ++ r) K = opsWP P l (opsWP P r K) := funext fun st => propext (opsWP_append l r st)
    rw [this]
theorem heads_head : ∀ (ps : List POp) (i : Nat) p, i < heads ps → ps[i]? = some p → p.po.head = true
  | [], i, p, h, _ => by simp [heads] at h
  | q :: ps, i, p, h, hp => by
    unfold heads at h
    rw [List.takeWhile_cons] at h
    split at h
    · rename_i hq
      cases i with
      | zero => simp at hp; subst hp; exact hq
      | succ i => exact heads_head ps i p (by simpa [heads] using h) (by simpa using hp)
    · simp at h
theorem heads_le (ps : List POp) : heads ps ≤ ps.length := List.Sublist.length_le (List.takeWhile_sublist _)
theorem okOps_drop {ops : Array Oper} : ∀ (k : Nat) (os : List Oper) (ps : List POp), okOps P n ops os ps = true → okOps P n ops (os.drop k) (ps.drop k) = true
  | 0, _, _, h => by simpa using h
  | k + 1, [], [], _ => by simp [okOps]
  | k + 1, [], _ :: _, h => by simp [okOps] at h
  | k + 1, _ :: _, [], h => by simp [okOps] at h
  | k + 1, o :: os, p :: ps, h => by
    simp only [okOps, Bool.and_eq_true] at h
    exact okOps_drop k os ps h.2
/-- A region that draws its order. -/
theorem region_draw0 {id : Nat} {ops : Array Oper} {ps : List POp} {K : ASt → Prop} {Q : Exit → Act → World → Prop} (hm : P.follows .mixedOrders = true) (hok : okOps P n ops ops.toList ps = true) (hd : drawOK0 ops ps = true) (h : FR w0 S n st β a w) (hK : opsWP P ps K st)
    (hQ : ∀ st' β' a' w', FR w0 S n st' β' a' w' → K st' → Q .normal a' w') : (Code.region id ops true).wp P Q a w := by
  have hlen : ops.size = ps.length := by have := (okOps_at _ _ hok).1; simpa using this
  unfold drawOK0 at hd
  rw [Bool.and_eq_true] at hd
  obtain ⟨hd1, hlex⟩ := hd
  have hle := heads_le ps
  have hlow : ∀ i, i < heads ps → ∀ listed, HeadInv .any ops (heads ps) listed → i ∈ Region.ready .any ops listed → ∀ j ∈ Region.ready .any ops listed, j < heads ps := fun i hi listed inv hr j hj => by
    simp only [Bool.or_eq_true, Bool.and_eq_true, decide_eq_true_eq] at hd1
    rcases hd1 with hd1 | ⟨⟨hlt, hs⟩, hc⟩
    · obtain ⟨_, o, ho, _⟩ := mem_ready.1 hj
      have := (Array.getElem?_eq_some_iff.1 ho).1
      omega
    · rcases Nat.lt_or_ge j (heads ps) with q | q
      · exact q
      · exact absurd hj (tail_waits hs hc hlt inv _ i rfl hi (mem_ready.1 hr).1 j q)
  have hw : FR w0 S n st β a { w with drawn := w.drawn + 1 } := h.world (Below.refl w.heap.size w).drew
  have inv0 : HeadInv .any ops (heads ps) (Array.replicate ops.size false) :=
    ⟨by simp, fun j oj _ hl => (by rw [getD_replicate_false] at hl; cases hl), fun t _ ht => getD_in (by simpa using ht) (getD_replicate_false _ _)⟩
  have hsplit : ps.take (heads ps) ++ ps.drop (heads ps) = ps := List.take_append_drop _ _
  rw [← hsplit, opsWP_append] at hK
  have htl : (ps.take (heads ps)).length = heads ps := by simp; omega
  have H := wpS_lex (g := ops.size - heads ps) (K := opsWP P (ps.drop (heads ps)) K) hok (heads_head ps) hlow (ps.take (heads ps)) 0 _ st (fun j hj => by rw [htl] at hj; simp [hj]) (by omega) (by omega) ⟨β, a, _, hw⟩ inv0 (by rw [htl]; exact hlex) hK
  refine wp_region_any hm ?_
  have hdl : (ops.toList.drop (heads ps)).length = ops.size - heads ps := by simp
  have := wpAny_of_S (Q := Q) (g := ops.size - heads ps) hok (heads_head ps) (fun listed st' β' a' w' hf hL => by
    have := wpAny_of_seq (P := P) (md := .any) (Q' := Q) (ops := ops) (ops.toList.drop (heads ps)) (heads ps) listed a' w' (fun j => by simp [List.getElem?_drop]) (by rw [hdl]; exact hL.1)
      (list_ok hQ _ _ st' β' a' w' (okOps_drop _ _ _ hok) hf hL.2)
    rwa [hdl] at this) _ _ _ _ _ _ hw H
  rw [htl, show heads ps + (ops.size - heads ps) = ops.size by omega] at this
  exact this

/-! ### Stores among looks -/
/-- What it gives hangs on views alone. -/
def PO.vw : PO → Bool
  | .mv _ | .loadr _ | .loadsr _ _ | .idxr _ _ _ | .pick _ _ _ | .bin _ _ _ | .un _ _ | .conv _ _ | .fld _ _ | .ext _ _ | .nilck _ | .minmax _ _ _ | .lens _ | .idxs _ _ | .eqb _ _ _ => true
  | _ => false
def POp.isSto (p : POp) : Bool := match p with
  | ⟨_, .store _ _, none⟩ => true
  | ⟨_, .stores _ _ _, none⟩ => true
  | _ => false
def POp.comm (p q : POp) : Bool := (p.po.head && q.po.head && p.apart q) || (p.po.vw && q.isSto && !q.slots.contains p.dst) || (q.po.vw && p.isSto && !p.slots.contains q.dst)
def pFree2 (ops : Array Oper) (ps : List POp) (listed : Array Bool) (i : Nat) : Bool :=
  match ps[i]? with
  | none => false
  | some p => (p.po.head || p.isSto) && (List.range ops.size).all fun j => j == i || listed.getD j true || Region.waitsFor .any ops j i || (match ps[j]? with
      | some q => p.comm q
      | none => true)
def pLex2 (ops : Array Oper) (ps : List POp) : Nat → Nat → Array Bool → Bool
  | 0, _, listed => (Region.ready .any ops listed).isEmpty
  | f + 1, k, listed => (Region.ready .any ops listed).contains k && pFree2 ops ps listed k && pLex2 ops ps f (k + 1) (listed.setIfInBounds k true)
/-- Operation j waits for i, at once or through others. -/
def waitsT (ops : Array Oper) : Nat → Nat → Nat → Bool
  | 0, _, _ => false
  | f + 1, j, i => Region.waitsFor .any ops j i || (List.range ops.size).any fun m => Region.waitsFor .any ops j m && waitsT ops f m i
/-- A call that takes a row. -/
def POp.tk (p : POp) : Option (List Nat) := match p with
  | ⟨_, .callt _ (_ :: _) avoid, none⟩ => some avoid
  | _ => none
/-- An operation of which one step is told. -/
def POp.one0 (p : POp) : Bool := match p with
  | ⟨_, .callt _ _ _, none⟩ => true
  | ⟨_, .asg _, none⟩ => true
  | ⟨_, .app _ _ _ _ _, none⟩ => true
  | ⟨_, .appa _ _ _ _ _ _, none⟩ => true
  | p => p.po.head || p.isSto
/-- A plain look at a slot. -/
def POp.isPl (p : POp) : Bool := match p with
  | ⟨_, .mv (.t _), none⟩ => true
  | ⟨_, .conv _ (.t _), none⟩ => true
  | ⟨_, .fld _ (.t _), none⟩ => true
  | ⟨_, .load (.t _), none⟩ => true
  | _ => false
/-- A look at cells that nobody writes; an append; an assignment. -/
def POp.isRl (p : POp) : Bool := match p with
  | ⟨_, .loadsr _ (.t _), none⟩ => true
  | _ => false
def POp.ap (p : POp) : Option (List Nat) := match p with
  | ⟨_, .appa _ _ _ (.t _) (.t _) avoid, none⟩ => some avoid
  | _ => none
def POp.isAs (p : POp) : Bool := match p with
  | ⟨_, .asg (.t _), none⟩ => true
  | _ => false
def POp.comm3 (p q : POp) : Bool := p.comm q || (match p.tk with
  | some avoid => q.isPl && p.apart q && avoid.contains q.dst
  | none => false) || (p.isRl && q.isAs && p.apart q) || (match p.ap with
  | some avoid => q.isRl && p.apart q && avoid.contains q.dst
  | none => false)
def pFree3 (ops : Array Oper) (ps : List POp) (listed : Array Bool) (i : Nat) : Bool :=
  match ps[i]? with
  | none => false
  | some p => (List.range ops.size).all fun j => j == i || listed.getD j true || waitsT ops ops.size j i || (match ps[j]? with
      | some q => p.comm3 q
      | none => true)
def pLex3 (ops : Array Oper) (ps : List POp) : Nat → Nat → Array Bool → Bool
  | 0, _, listed => (Region.ready .any ops listed).isEmpty
  | f + 1, k, listed => (Region.ready .any ops listed).contains k && pFree3 ops ps listed k && pLex3 ops ps f (k + 1) (listed.setIfInBounds k true)
def drawOK (ops : Array Oper) (ps : List POp) : Bool := drawOK0 ops ps || pLex2 ops ps ops.size 0 (Array.replicate ops.size false) || (ps.all (fun p => p.one0) && pLex3 ops ps ops.size 0 (Array.replicate ops.size false))
theorem vw_head {po : PO} (h : po.vw = true) : po.head = true := by cases po <;> first | rfl | cases h
/-- A home may turn: views stay. -/
theorem view_turn {h : Nat} {c : AV} (hc : (∃ cs cs', st h = .box cs ∧ c = .box cs') ∨ ∃ e m xs e' m' ys, st h = .own e m xs ∧ c = .own e' m' ys) (x : Opd) : view (st.put h c) x = view st x := by
  cases x with
  | t k =>
    by_cases hk : k = h
    · subst hk
      rcases hc with ⟨cs, cs', h1, rfl⟩ | ⟨e, m, xs, e', m', ys, h1, rfl⟩
      · simp only [view, put_same, h1]
      · simp only [view, put_same, h1]
    · simp only [view, put_ne hk]
  | _ => rfl
theorem hv_turn {h : Nat} {c : AV} (hc : (∃ cs cs', st h = .box cs ∧ c = .box cs') ∨ ∃ e m xs e' m' ys, st h = .own e m xs ∧ c = .own e' m' ys) {po : PO} (hp : po.vw = true) : hv (st.put h c) po = hv st po := by
  cases po <;> first | (cases hp; done) | (simp only [hv, view_turn hc])
theorem heval_vw {po : PO} {av : AV} (hp : po.vw = true) : HEval P st av po = ((hv st po).1 ∧ av = (hv st po).2) := by
  cases po <;> first | (cases hp; done) | rfl
theorem ys_turn {h : Nat} {c : AV} {p : POp} {av : AV} (hc : (∃ cs cs', st h = .box cs ∧ c = .box cs') ∨ ∃ e m xs e' m' ys, st h = .own e m xs ∧ c = .own e' m' ys) (hp : p.po.vw = true) : YS P (st.put h c) p av ↔ YS P st p av := by
  have hh : (st h).isHome = true := by rcases hc with ⟨cs, cs', h1, rfl⟩ | ⟨e, m, xs, e', m', ys, h1, rfl⟩ <;> rw [h1] <;> rfl
  have hh2 : c.isHome = true := by rcases hc with ⟨cs, cs', h1, rfl⟩ | ⟨e, m, xs, e', m', ys, h1, rfl⟩ <;> rfl
  have hsv : ∀ s v, (st.put h c) s = .val v ↔ st s = .val v := fun s v => by
    by_cases e : s = h
    · subst e
      rw [put_same]
      constructor
      · intro q; rw [q] at hh2; cases hh2
      · intro q; rw [q] at hh; cases hh
    · rw [put_ne e]
  have hd : ((st.put h c) p.dst).isHome = false ↔ (st p.dst).isHome = false := by
    by_cases e : p.dst = h
    · rw [e, put_same, hh2, hh]
    · rw [put_ne e]
  unfold YS
  rw [hd]
  cases hg : p.guard with
  | none => simp only [heval_vw hp, hv_turn hc hp]
  | some sf =>
    obtain ⟨s, f⟩ := sf
    simp only [heval_vw hp, hv_turn hc hp, hsv]
/-- What a store does. -/
def Sto (st : ASt) (q : POp) (st' : ASt) : Prop := (ev st q.dst q.po).1 ∧ st' = (ev st q.dst q.po).2
theorem step_of_sto {q : POp} {K : ASt → Prop} (hq : q.isSto = true) : opStep P st q K ↔ ∃ st', Sto st q st' ∧ K st' := by
  unfold POp.isSto at hq
  split at hq
  · simp only [opStep, opCore, Sto]
    constructor
    · rintro ⟨h1, h2⟩; exact ⟨_, ⟨h1, rfl⟩, h2⟩
    · rintro ⟨_, ⟨h1, rfl⟩, h2⟩; exact ⟨h1, h2⟩
  · simp only [opStep, opCore, Sto]
    constructor
    · rintro ⟨h1, h2⟩; exact ⟨_, ⟨h1, rfl⟩, h2⟩
    · rintro ⟨_, ⟨h1, rfl⟩, h2⟩; exact ⟨h1, h2⟩
  · cases hq
theorem sto_turn {q : POp} {st' : ASt} (hq : q.isSto = true) (h : Sto st q st') : ∃ k c, st' = st.put k c ∧ ((∃ cs cs', st k = .box cs ∧ c = .box cs') ∨ ∃ e m xs e' m' ys, st k = .own e m xs ∧ c = .own e' m' ys) := by
  obtain ⟨h1, rfl⟩ := h
  unfold POp.isSto at hq
  split at hq
  · revert h1
    simp only [ev]
    split
    · split
      · rename_i cs hcs
        exact fun _ => ⟨_, _, rfl, .inl ⟨_, _, hcs, rfl⟩⟩
      · exact fun h => h.elim
    · split
      · rename_i e m xs hxs
        exact fun _ => ⟨_, _, rfl, .inr ⟨_, _, _, _, _, _, hxs, rfl⟩⟩
      · exact fun h => h.elim
    · exact fun h => h.elim
  · revert h1
    simp only [ev]
    split
    · split
      · rename_i cs hcs
        exact fun _ => ⟨_, _, rfl, .inl ⟨_, _, hcs, rfl⟩⟩
      · exact fun h => h.elim
    · split
      · rename_i e m xs hxs
        exact fun _ => ⟨_, _, rfl, .inr ⟨_, _, _, _, _, _, hxs, rfl⟩⟩
      · exact fun h => h.elim
    · exact fun h => h.elim
  · cases hq
theorem put_comm {d k : Nat} {a c : AV} (h : k ≠ d) : (st.put d a).put k c = (st.put k c).put d a := by
  funext j
  simp only [put_at]
  by_cases h1 : j = k
  · rw [if_pos h1, if_neg (fun e => h (h1.symm.trans e)), if_pos h1]
  · rw [if_neg h1, if_neg h1]
/-- A store does not hang on a slot that it does not look at. -/
theorem ev_put {q : POp} {d : Nat} {u : AV} (hr : Real w0 S n st) (hq : q.isSto = true) (hd : (st d).isHome = false) (hs : d ∉ q.slots) : ev (st.put d u) q.dst q.po = ((ev st q.dst q.po).1, (ev st q.dst q.po).2.put d u) := by
  have tgt : ∀ {k : Nat}, (st k).isHome = true → (st.put d u) k = st k ∧ k ≠ d := fun hk => ⟨put_ne (ne_home hd hk), ne_home hd hk⟩
  unfold POp.isSto at hq
  split at hq
  · rename_i d' p x
    simp only [POp.slots, PO.slots, List.append_nil, List.mem_append, not_or] at hs
    simp only [ev]
    rw [view_put hs.1, view_put hs.2]
    have ht := view_tgt hr p
    revert ht
    cases view st p <;> intro ht <;> first | rfl | skip
    case ref k j =>
      obtain ⟨cs, h1⟩ := ht
      obtain ⟨e1, e2⟩ := tgt (k := k) (by rw [h1]; rfl)
      simp only [e1, h1]
      rw [put_comm e2]
    case into k i j =>
      obtain ⟨e, m, xs, h1⟩ := ht
      obtain ⟨e1, e2⟩ := tgt (k := k) (by rw [h1]; rfl)
      simp only [e1, h1]
      rw [put_comm e2]
  · rename_i d' c p x
    simp only [POp.slots, PO.slots, List.append_nil, List.mem_append, not_or] at hs
    simp only [ev]
    rw [view_put hs.1, view_put hs.2]
    have ht := view_tgt hr p
    revert ht
    cases view st p <;> intro ht <;> first | rfl | skip
    case ref k j =>
      obtain ⟨cs, h1⟩ := ht
      obtain ⟨e1, e2⟩ := tgt (k := k) (by rw [h1]; rfl)
      cases view st x <;> first | rfl | skip
      simp only [e1, h1]
      rw [put_comm e2]
    case into k i j =>
      obtain ⟨e, m, xs, h1⟩ := ht
      obtain ⟨e1, e2⟩ := tgt (k := k) (by rw [h1]; rfl)
      cases view st x <;> first | rfl | skip
      simp only [e1, h1]
      rw [put_comm e2]
  · cases hq
/-- A step, whatever it is. -/
def Tr (P : Program) (st : ASt) (p : POp) (st' : ASt) : Prop := opStep P st p (fun s => s = st')
theorem tr_head {p : POp} {st' : ASt} (hh : p.po.head = true) : Tr P st p st' ↔ ∃ av, YS P st p av ∧ st' = st.put p.dst av := by
  unfold Tr
  rw [step_of_ys hh]
  constructor
  · rintro ⟨av, h1, h2⟩; exact ⟨av, h1, h2.symm⟩
  · rintro ⟨av, h1, h2⟩; exact ⟨av, h1, h2.symm⟩
theorem tr_sto {p : POp} {st' : ASt} (hq : p.isSto = true) : Tr P st p st' ↔ Sto st p st' := by
  unfold Tr
  rw [step_of_sto hq]
  constructor
  · rintro ⟨s, h1, rfl⟩; exact h1
  · intro h; exact ⟨_, h, rfl⟩
theorem step_tr {p : POp} {K : ASt → Prop} (hp : (p.po.head || p.isSto) = true) : opStep P st p K ↔ ∃ st', Tr P st p st' ∧ K st' := by
  rw [Bool.or_eq_true] at hp
  rcases hp with hp | hp
  · rw [step_of_ys hp]
    constructor
    · rintro ⟨av, h1, h2⟩; exact ⟨_, (tr_head hp).2 ⟨av, h1, rfl⟩, h2⟩
    · rintro ⟨st', h1, h2⟩
      obtain ⟨av, h3, rfl⟩ := (tr_head hp).1 h1
      exact ⟨av, h3, h2⟩
  · rw [step_of_sto hp]
    constructor
    · rintro ⟨s, h1, h2⟩; exact ⟨s, (tr_sto hp).2 h1, h2⟩
    · rintro ⟨s, h1, h2⟩; exact ⟨s, (tr_sto hp).1 h1, h2⟩
theorem comm_vs {p q : POp} {s1 s2 : ASt} (hr : Real w0 S n st) (hp : p.po.vw = true) (hq : q.isSto = true) (hs : p.dst ∉ q.slots) (h1 : Tr P st p s1) (h2 : Tr P s1 q s2) : ∃ s1', Tr P st q s1' ∧ Tr P s1' p s2 := by
  obtain ⟨av, hy, rfl⟩ := (tr_head (vw_head hp)).1 h1
  obtain ⟨c1, rfl⟩ := (tr_sto hq).1 h2
  rw [ev_put hr hq hy.1 hs] at c1 ⊢
  have hsto : Sto st q (ev st q.dst q.po).2 := ⟨c1, rfl⟩
  obtain ⟨k, c, e, hc⟩ := sto_turn hq hsto
  refine ⟨_, (tr_sto hq).2 hsto, (tr_head (vw_head hp)).2 ⟨av, ?_, rfl⟩⟩
  rw [e]; exact (ys_turn hc hp).2 hy
theorem comm_sv {p q : POp} {s1 s2 : ASt} (hr : Real w0 S n st) (hp : p.po.vw = true) (hq : q.isSto = true) (hs : p.dst ∉ q.slots) (h1 : Tr P st q s1) (h2 : Tr P s1 p s2) : ∃ s1', Tr P st p s1' ∧ Tr P s1' q s2 := by
  have hsto := (tr_sto hq).1 h1
  obtain ⟨av, hy, rfl⟩ := (tr_head (vw_head hp)).1 h2
  obtain ⟨k, c, e, hc⟩ := sto_turn hq hsto
  rw [e] at hy
  have hy0 := (ys_turn hc hp).1 hy
  obtain ⟨c1, e1⟩ := hsto
  refine ⟨_, (tr_head (vw_head hp)).2 ⟨av, hy0, rfl⟩, (tr_sto hq).2 ⟨?_, ?_⟩⟩
  · rw [ev_put hr hq hy0.1 hs]; exact c1
  · rw [ev_put hr hq hy0.1 hs, e1]
theorem comm_hh {p q : POp} {s1 s2 : ASt} (hr : Real w0 S n st) (hp : p.po.head = true) (hq : q.po.head = true) (ha : p.apart q = true) (h1 : Tr P st p s1) (h2 : Tr P s1 q s2) : ∃ s1', Tr P st q s1' ∧ Tr P s1' p s2 := by
  obtain ⟨av, hy, rfl⟩ := (tr_head hp).1 h1
  obtain ⟨av2, hy2, rfl⟩ := (tr_head hq).1 h2
  have hap := apart_spec ha
  have hy2' : YS P st q av2 := (ys_put hr hy.1 hap.2.1 (Ne.symm hap.1)).1 hy2
  refine ⟨_, (tr_head hq).2 ⟨av2, hy2', rfl⟩, (tr_head hp).2 ⟨av, (ys_put hr hy2'.1 hap.2.2 hap.1).2 hy, ?_⟩⟩
  exact (put_comm (Ne.symm hap.1))
theorem comm_any {p q : POp} {s1 s2 : ASt} (hr : Real w0 S n st) (hc : p.comm q = true) (h1 : Tr P st p s1) (h2 : Tr P s1 q s2) : ∃ s1', Tr P st q s1' ∧ Tr P s1' p s2 := by
  simp only [POp.comm, Bool.or_eq_true, Bool.and_eq_true, Bool.not_eq_true', List.contains_eq_mem, decide_eq_false_iff_not] at hc
  rcases hc with (⟨⟨a1, a2⟩, a3⟩ | ⟨⟨a1, a2⟩, a3⟩) | ⟨⟨a1, a2⟩, a3⟩
  · exact comm_hh hr a1 a2 a3 h1 h2
  · exact comm_vs hr a1 a2 a3 h1 h2
  · exact comm_sv hr a1 a2 a3 h1 h2
theorem real_tr {ops : Array Oper} {p : POp} {st' : ASt} (h : Real w0 S n st) (hok : okOper P n ops o p = true) (hs : Tr P st p st') : Real w0 S n st' := by
  obtain ⟨β, a, w, h⟩ := h
  have := step_ok (Q := fun _ _ _ => False) (N := fun a' w' => Real w0 S n st') h hok hs (fun st'' β' a' w' hf e => ⟨β', a', w', e ▸ hf⟩)
  split at this
  · revert this
    unfold Oper.wp
    generalize (execOp a.eval o).run P w = r
    cases r with
    | ok x w' =>
      cases x <;> simp only [Oper.upon] <;> intro this <;> first | exact this | (exact this.elim) | skip
      · obtain ⟨e, w'', fr, hr, _⟩ := this []
        cases e with
        | returned v => exact hr
        | panicked c => exact hr.elim
        | outgrown => obtain ⟨_, _, hr⟩ := hr; exact hr.elim
      · obtain ⟨v, w'', hr, _⟩ := this default []; exact hr
    | halt x w' => cases x <;> simp only [Oper.upon] <;> exact fun h => h.elim
  · exact this
/-- Whatever order, whatever steps. -/
def wpT (P : Program) (ops : Array Oper) (ps : List POp) (L : Array Bool → ASt → Prop) : Nat → Array Bool → ASt → Prop
  | 0, listed, st => L listed st
  | f + 1, listed, st => Region.ready .any ops listed ≠ [] ∧ ∀ i ∈ Region.ready .any ops listed, ∃ p, ps[i]? = some p ∧ ∃ st', Tr P st p st' ∧ wpT P ops ps L f (listed.setIfInBounds i true) st'
theorem wpAny_of_T {ops : Array Oper} {ps : List POp} {L : Array Bool → ASt → Prop} {Q : Exit → Act → World → Prop} (hok : okOps P n ops ops.toList ps = true)
    (hL : ∀ listed st β a w, FR w0 S n st β a w → L listed st → wpAny P .any ops Q 0 listed a w) :
    ∀ (f : Nat) (listed : Array Bool) (st : ASt) (β : Bt) (a : Act) (w : World), FR w0 S n st β a w → wpT P ops ps L f listed st → wpAny P .any ops Q f listed a w
  | 0, listed, st, β, a, w, h, hs => hL _ _ _ _ _ h hs
  | f + 1, listed, st, β, a, w, h, hs => by
    refine ⟨fun h0 => absurd h0 hs.1, fun i hi => ?_⟩
    obtain ⟨p, hp, st', hy, hn⟩ := hs.2 i hi
    obtain ⟨_, o, ho, _⟩ := mem_ready.1 hi
    have hop := (okOps_at _ _ hok).2 i o p (by simpa using ho) hp
    unfold wpOp
    rw [ho]
    have := step_ok (Q := Q) (N := wpAny P .any ops Q f (listed.setIfInBounds i true)) h hop hy (fun st'' β' a' w' hf e => wpAny_of_T hok hL f _ _ _ _ _ (e ▸ hf) hn)
    simp only
    split
    · rename_i hw; rw [if_pos hw] at this; exact .inl this
    · rename_i hw; rw [if_neg hw] at this; exact this
theorem wpT_first {ops : Array Oper} {ps : List POp} {i : Nat} {p : POp} {L : Array Bool → ASt → Prop} (hok : okOps P n ops ops.toList ps = true) (hp : ps[i]? = some p) (hdone : ∀ listed st, L listed st → Region.ready .any ops listed = []) :
    ∀ (f : Nat) (listed : Array Bool) (st s1 : ASt), Real w0 S n st →
      (∀ j q, ps[j]? = some q → j < ops.size → j ≠ i → listed.getD j true = false → Region.waitsFor .any ops j i = false → p.comm q = true) →
      i ∈ Region.ready .any ops listed → Tr P st p s1 → wpT P ops ps L f (listed.setIfInBounds i true) s1 → wpT P ops ps L (f + 1) listed st := by
  intro f
  have nw : ∀ {listed : Array Bool} {j : Nat}, i ∈ Region.ready .any ops listed → j ∈ Region.ready .any ops listed → Region.waitsFor .any ops j i = false := fun {listed j} hr hj => by
    cases hq : Region.waitsFor .any ops j i with
    | false => rfl
    | true =>
      obtain ⟨oj, hoj, e, he, hb, hon⟩ := Region.waitsFor_spec hq
      obtain ⟨_, oj', hoj', hall⟩ := mem_ready.1 hj
      rw [hoj] at hoj'; injection hoj' with hoj'; subst hoj'
      have h1 := hall e he hb
      rw [hon, getD_both (mem_ready.1 hr).1] at h1
      cases h1
  induction f with
  | zero =>
    intro listed st s1 _ _ hr hy H
    refine ⟨fun h => (by rw [h] at hr; cases hr), fun j hj => ?_⟩
    by_cases hji : j = i
    · subst hji; exact ⟨p, hp, s1, hy, H⟩
    · have h1 := ready_mono hj hji
      rw [hdone _ _ H] at h1
      cases h1
  | succ f ih =>
    intro listed st s1 hreal hfree hr hy H
    refine ⟨fun h => (by rw [h] at hr; cases hr), fun j hj => ?_⟩
    by_cases hji : j = i
    · subst hji; exact ⟨p, hp, s1, hy, H⟩
    · obtain ⟨q, hq, s2, hy2, H2⟩ := H.2 j (ready_mono hj hji)
      obtain ⟨_, oj, hoj, _⟩ := mem_ready.1 hj
      have hjs : j < ops.size := (Array.getElem?_eq_some_iff.1 hoj).1
      have hcm := hfree j q hq hjs hji (mem_ready.1 hj).1 (nw hr hj)
      obtain ⟨s1', k1, k2⟩ := comm_any hreal hcm hy hy2
      have hokj := (okOps_at _ _ hok).2 j oj q (by simpa using hoj) hq
      refine ⟨q, hq, s1', k1, ih (listed.setIfInBounds j true) s1' s2 (real_tr hreal hokj k1) (fun k r hk hks hki hun hw => ?_) (ready_mono hr (Ne.symm hji)) k2 ?_⟩
      · refine hfree k r hk hks hki ?_ hw
        by_cases hkj : k = j
        · subst hkj; exact (mem_ready.1 hj).1
        · rw [getD_set_ne true (Ne.symm hkj)] at hun; exact hun
      · rw [Array.setIfInBounds_comm _ _ hji]
        exact H2
theorem wpT_lex {ops : Array Oper} {ps : List POp} {K : ASt → Prop} (hok : okOps P n ops ops.toList ps = true) :
    ∀ (l : List POp) (k : Nat) (listed : Array Bool) (st : ASt), (∀ j, j < l.length → l[j]? = ps[k + j]?) → Real w0 S n st → pLex2 ops ps l.length k listed = true → opsWP P l K st →
      wpT P ops ps (fun listed' st' => Region.ready .any ops listed' = [] ∧ K st') l.length listed st
  | [], k, listed, st, _, _, hB, h => ⟨by simpa [pLex2] using hB, h⟩
  | p :: l, k, listed, st, hl, hreal, hB, h => by
    have hp : ps[k]? = some p := by simpa using (hl 0 (by simp)).symm
    simp only [List.length_cons, pLex2, Bool.and_eq_true] at hB
    obtain ⟨⟨hr, hf⟩, hB'⟩ := hB
    have hr' : k ∈ Region.ready .any ops listed := by simpa using hr
    obtain ⟨_, o, ho, _⟩ := mem_ready.1 hr'
    have hop := (okOps_at _ _ hok).2 k o p (by simpa using ho) hp
    simp only [pFree2, hp, Bool.and_eq_true, List.all_eq_true, List.mem_range] at hf
    obtain ⟨hkind, hf⟩ := hf
    obtain ⟨s1, hy, hK⟩ := (step_tr hkind).1 h
    refine wpT_first hok hp (fun _ _ hL => hL.1) l.length listed st s1 hreal (fun j q hq hjn hji hun hw => ?_) hr' hy ?_
    · have := hf j hjn
      simp only [Bool.or_eq_true, beq_iff_eq, hji, false_or, hun, Bool.false_eq_true, hw, hq] at this
      exact this
    · exact wpT_lex hok l (k + 1) _ _ (fun j hj => by have := hl (j + 1) (by simp; omega); simpa [Nat.add_assoc, Nat.add_comm 1 j] using this) (real_tr hreal hop hy) hB' hK
/-! ### A call that takes a row, among plain looks -/
theorem kill_or (k : Nat) (v : AV) : v.kill k = v ∨ v.kill k = .junk := by
  cases v <;> simp only [AV.kill, true_or]
  case alias e => by_cases h : e = k <;> simp [h]
  case ref e o => by_cases h : e = k <;> simp [h]
  case into e i o => by_cases h : e = k <;> simp [h]
  case clo f ds => by_cases h : k ∈ ds <;> simp [h]
theorem rel_kill {w : World} {I : Nat → Prop} {av : AV} {v : Value} (h : Rel w I av v) (k : Nat) : av.kill k = av := by cases h <;> rfl
theorem view_free {k d s e m : Nat} {xs : List (List AV)} {res : AV} (hk : st k = .own e m xs) (hs : s ≠ d) : view ((st.free k).put d res) (.t s) = (view st (.t s)).kill k := by
  have e1 : ((st.free k).put d res) s = if s = k then .junk else (st s).kill k := by rw [put_ne hs]; rfl
  by_cases h : s = k
  · subst h
    rw [if_pos rfl] at e1
    simp only [view, e1, hk, AV.kill, if_pos]
  · rw [if_neg h] at e1
    simp only [view, e1]
    cases hq : st s <;> simp only [AV.kill] <;> first | rfl | skip
    case own => simp [h]
    case box => simp [h]
    case alias x => by_cases hx : x = k <;> simp [hx]
    case ref x o => by_cases hx : x = k <;> simp [hx]
    case into x i o => by_cases hx : x = k <;> simp [hx]
    case clo f ds => by_cases hx : k ∈ ds <;> simp [hx]
theorem argv_noloan {st' : ASt} {av : AV} (h : av.noLoan = true) : argv st av = argv st' av := by
  cases av <;> first | (cases h; done) | rfl | skip
  case clo f ds => cases ds <;> rfl
theorem cells_free {k d : Nat} {res V : AV} (hd : (st d).isHome = false) (ht : V.Tgt st) (hV : V.kill k = V) : cellsOf ((st.free k).put d res) V = cellsOf st V := by
  cases V <;> simp only [cellsOf]
  case ref h o =>
    obtain ⟨cs, h1⟩ := ht
    have hh : h ≠ k := fun q => by simp [AV.kill, q] at hV
    have hhd : h ≠ d := fun q => by rw [← q, h1] at hd; cases hd
    rw [put_ne hhd, free_home hh (by rw [h1]; rfl)]
  case into h i o =>
    obtain ⟨e', m', ys, h1⟩ := ht
    have hh : h ≠ k := fun q => by simp [AV.kill, q] at hV
    have hhd : h ≠ d := fun q => by rw [← q, h1] at hd; cases hd
    rw [put_ne hhd, free_home hh (by rw [h1]; rfl)]
theorem load_kill (hr : Real w0 S n st) {s k : Nat} {cs : List AV} {o : Nat} (h : cellsOf st (view st (.t s)) = some (cs, o)) (ho : o < cs.length) : (cs.getD o .junk).kill k = cs.getD o .junk := by
  obtain ⟨β, a, w, hf⟩ := hr
  obtain ⟨b, off, f, _, _, _, hrel⟩ := cells_ok hf (view_ok hf (x := .tmp s) (y := .t s) (by simp [okOpd])) h
  exact rel_kill (hrel o _ (by rw [List.getD_eq_getElem?_getD, List.getElem?_eq_getElem ho]; rfl)) k
theorem pl_free {q : POp} {k d e m : Nat} {xs : List (List AV)} {res av : AV} (hr : Real w0 S n st) (hq : q.isPl = true) (hk : st k = .own e m xs) (hd : (st d).isHome = false) (hdq : d ∉ q.slots) (hk2 : q.dst ≠ k) (hne : q.dst ≠ d) (hy : YS P ((st.free k).put d res) q av) : ∃ av', YS P st q av' ∧ av'.kill k = av := by
  have hd2 : (st q.dst).isHome = false := by
    have h1 := hy.1
    rw [put_ne hne, free_ne hk2] at h1
    cases hh : (st q.dst).isHome with
    | false => rfl
    | true => rw [kill_home hh, hh] at h1; cases h1
  unfold POp.isPl at hq
  split at hq
  · rename_i d2 s
    simp only [POp.slots, PO.slots, Opd.slot, List.append_nil, List.mem_singleton] at hdq
    obtain ⟨_, _, h2⟩ := hy
    refine ⟨view st (.t s), ⟨hd2, trivial, rfl⟩, ?_⟩
    rw [h2]
    exact (view_free hk (Ne.symm hdq)).symm
  · rename_i d2 kd s
    simp only [POp.slots, PO.slots, Opd.slot, List.append_nil, List.mem_singleton] at hdq
    obtain ⟨_, h1, h2⟩ := hy
    simp only [hv, view_free (res := res) hk (Ne.symm hdq)] at h1 h2
    rcases kill_or k (view st (.t s)) with hq | hq <;> rw [hq] at h1 h2
    · refine ⟨av, ⟨hd2, ?_⟩, ?_⟩
      · simp only [HEval, hv]; exact ⟨h1, h2⟩
      · revert h1 h2
        split
        · rintro _ rfl; rfl
        · exact fun h => h.elim
    · exact h1.elim
  · rename_i d2 off s
    simp only [POp.slots, PO.slots, Opd.slot, List.append_nil, List.mem_singleton] at hdq
    obtain ⟨_, h1, h2⟩ := hy
    simp only [hv, view_free (res := res) hk (Ne.symm hdq)] at h1 h2
    rcases kill_or k (view st (.t s)) with hq | hq <;> rw [hq] at h1 h2
    · refine ⟨av, ⟨hd2, ?_⟩, ?_⟩
      · simp only [HEval, hv]; exact ⟨h1, h2⟩
      · obtain ⟨V, hV⟩ : ∃ V, V = view st (.t s) := ⟨_, rfl⟩
        rw [← hV] at hq h1 h2
        cases V <;> first | exact h1.elim | skip
        case roAt => rw [h2]; rfl
        case ref h o =>
          have hh : h ≠ k := fun q => by simp [AV.kill, q] at hq
          rw [h2]; simp [AV.kill, hh]
        case into h i o =>
          have hh : h ≠ k := fun q => by simp [AV.kill, q] at hq
          rw [h2]; simp [AV.kill, hh]
    · exact h1.elim
  · rename_i d2 s
    simp only [POp.slots, PO.slots, Opd.slot, List.append_nil, List.mem_singleton] at hdq
    obtain ⟨_, h1, h2⟩ := hy
    simp only [hv, view_free (res := res) hk (Ne.symm hdq)] at h1 h2
    rcases kill_or k (view st (.t s)) with hq | hq <;> rw [hq] at h1 h2
    · rw [cells_free hd (view_tgt hr (.t s)) hq] at h1 h2
      refine ⟨av, ⟨hd2, ?_⟩, ?_⟩
      · simp only [HEval, hv]; exact ⟨h1, h2⟩
      · revert h1 h2
        cases hc : cellsOf st (view st (.t s)) with
        | none => exact fun h => h.elim
        | some p =>
          intro h1 h2
          rw [h2]
          exact load_kill hr hc h1
    · exact h1.elim
  · cases hq
theorem pl_head {q : POp} (hq : q.isPl = true) : q.po.head = true := by
  unfold POp.isPl at hq
  split at hq <;> first | rfl | cases hq
theorem comm_tk {p q : POp} {avoid : List Nat} {s1 s2 : ASt} (hr : Real w0 S n st) (hp : p.tk = some avoid) (hq : q.isPl = true) (ha : p.apart q = true) (hav : avoid.contains q.dst = true) (h1 : Tr P st p s1) (h2 : Tr P s1 q s2) : ∃ s1', Tr P st q s1' ∧ Tr P s1' p s2 := by
  obtain ⟨a1, a2, a3⟩ := apart_spec ha
  have hqh := pl_head hq
  obtain ⟨av, hy, rfl⟩ := (tr_head hqh).1 h2
  unfold POp.tk at hp
  split at hp
  · rename_i d f x r avoid'
    injection hp with hp
    subst hp
    simp only at a1 a2
    simp only [POp.slots, PO.slots, List.append_nil, List.flatMap_cons, List.mem_append, List.mem_flatMap, not_or, not_exists, not_and] at a3
    obtain ⟨a4, a5⟩ := a3
    obtain ⟨hd, hl, hc⟩ := h1
    have vx : ∀ u, view (st.put q.dst u) x = view st x := fun u => view_put a4
    have vr : ∀ u, ∀ y ∈ r, view (st.put q.dst u) y = view st y := fun u y hy' => view_put (a5 y hy')
    have hl' : ∀ u, ∀ y ∈ r, (view (st.put q.dst u) y).noLoan = true := fun u y hy' => by rw [vr u y hy']; exact hl y hy'
    have har : ∀ u, (r.map fun y => argv (st.put q.dst u) (view (st.put q.dst u) y)) = r.map fun y => argv st (view st y) := fun u => List.map_congr_left fun y hy' => by
      rw [vr u y hy']; exact argv_noloan (hl y hy')
    have hd' : ∀ u, ((st.put q.dst u) d).isHome = false := fun u => by rw [put_ne a1]; exact hd
    rcases hc with ⟨k, e, m, xs, res, hx, hk, hka, htk, rfl⟩ | ⟨e, m, res, hx, hm, htk, rfl⟩
    · have hk2 : q.dst ≠ k := fun e => hka (by rw [← e]; simpa using hav)
      obtain ⟨av', hy', hkl⟩ := pl_free hr hq hk hd a2 hk2 (Ne.symm a1) hy
      refine ⟨st.put q.dst av', (tr_head hqh).2 ⟨av', hy', rfl⟩, hd' _, hl' _, .inl ⟨k, e, m, xs, res, by rw [vx]; exact hx, by rw [put_ne (Ne.symm hk2)]; exact hk, hka, by rw [har]; exact htk, ?_⟩⟩
      funext j
      simp only [put_at, ASt.free]
      by_cases j1 : j = d
      · have : j ≠ q.dst := fun e => a1 (j1.symm.trans e)
        rw [if_pos j1, if_neg this, if_pos j1]
      · rw [if_neg j1, if_neg j1]
        by_cases j2 : j = q.dst
        · have : j ≠ k := fun e => hk2 (j2.symm.trans e)
          rw [if_pos j2, if_neg this, if_pos j2, hkl]
        · rw [if_neg j2, if_neg j2]
    · have hy' := (ys_put hr hd a2 (Ne.symm a1)).1 hy
      refine ⟨st.put q.dst av, (tr_head hqh).2 ⟨av, hy', rfl⟩, hd' _, hl' _, .inr ⟨e, m, res, by rw [vx]; exact hx, hm, by rw [har]; exact htk, ?_⟩⟩
      exact put_comm a1
  · cases hp
theorem free_put {l h : Nat} {u : AV} (hlh : l ≠ h) (hu : u.kill h = u) : (st.put l u).free h = (st.free h).put l u := by
  funext j
  simp only [put_at, ASt.free]
  by_cases j1 : j = l
  · subst j1; rw [if_neg hlh, if_pos rfl, if_pos rfl, hu]
  · rw [if_neg j1, if_neg j1]
theorem rid_put {l d : Nat} {u : AV} (hld : l ≠ d) (hu : ∀ k, u.kill k = u) : (st.put l u).rid d = (st.rid d).put l u := by
  unfold ASt.rid
  rw [put_ne (Ne.symm hld)]
  split
  · exact free_put hld (hu d)
  · rfl
theorem free_roAt {h s o : Nat} {cs : List AV} (hh : (st h).isHome = true) : (st.free h) s = .roAt cs o ↔ st s = .roAt cs o := by
  by_cases hs : s = h
  · subst hs
    rw [free_same]
    constructor
    · intro e; cases e
    · intro e; rw [e] at hh; cases hh
  · rw [free_ne hs]
    constructor
    · intro e
      rcases kill_or h (st s) with q | q
      · rw [q] at e; exact e
      · rw [q] at e; cases e
    · intro e; rw [e]; rfl
theorem rid_roAt {d s o : Nat} {cs : List AV} : (st.rid d) s = .roAt cs o ↔ st s = .roAt cs o := by
  unfold ASt.rid
  split
  · rename_i h; exact free_roAt h
  · exact Iff.rfl
theorem view_roAt {s o : Nat} {cs : List AV} : view st (.t s) = .roAt cs o ↔ st s = .roAt cs o := by
  simp only [view]
  cases st s <;> simp
/-- What a look at cells that nobody writes gives. -/
theorem ys_rl {l n' s : Nat} {av : AV} : YS P st ⟨l, .loadsr n' (.t s), none⟩ av ↔ (st l).isHome = false ∧ ∃ cs o, st s = .roAt cs o ∧ o + n' ≤ cs.length ∧ av = .agg ((cs.drop o).take n') := by
  simp only [YS, HEval, hv]
  constructor
  · rintro ⟨h1, h2, h3⟩
    refine ⟨h1, ?_⟩
    revert h2 h3
    cases hq : view st (.t s) <;> intro h2 h3 <;> first | exact h2.elim | skip
    rename_i cs o
    exact ⟨cs, o, view_roAt.1 hq, h2, h3⟩
  · rintro ⟨h1, cs, o, h2, h3, h4⟩
    rw [view_roAt.2 h2]
    exact ⟨h1, h3, h4⟩
theorem rid_home2 {d k : Nat} (h : (st k).isHome = false) : ((st.rid d) k).isHome = false := by
  unfold ASt.rid
  split
  · by_cases hk : k = d
    · subst hk; rw [free_same]; rfl
    · rw [free_ne hk]
      cases hq : ((st k).kill d).isHome with
      | false => rfl
      | true => rw [home_kill hq] at h; cases h
  · exact h
theorem comm_le {p q : POp} {s1 s2 : ASt} (_hr : Real w0 S n st) (hp : p.isRl = true) (hq : q.isAs = true) (ha : p.apart q = true) (h1 : Tr P st p s1) (h2 : Tr P s1 q s2) : ∃ s1', Tr P st q s1' ∧ Tr P s1' p s2 := by
  obtain ⟨a1, a2, a3⟩ := apart_spec ha
  unfold POp.isRl at hp
  split at hp
  rotate_left
  · cases hp
  rename_i l n' s
  unfold POp.isAs at hq
  split at hq
  rotate_left
  · cases hq
  rename_i d x
  obtain ⟨av, hy, rfl⟩ := (tr_head rfl).1 h1
  simp only [POp.slots, PO.slots, Opd.slot, List.append_nil, List.mem_singleton] at a1 a2 a3
  obtain ⟨hl, cs, o, hs, hle, rfl⟩ := ys_rl.1 hy
  obtain ⟨c1, rfl⟩ := h2
  have hk : ∀ k, (AV.agg ((cs.drop o).take n')).kill k = .agg ((cs.drop o).take n') := fun _ => rfl
  have hxl : x ≠ l := Ne.symm a2
  have hds : s ≠ d := Ne.symm a3
  have hE : ev (st.put l (.agg ((cs.drop o).take n'))) d (.asg (.t x)) = ((ev st d (.asg (.t x))).1, (ev st d (.asg (.t x))).2.put l (.agg ((cs.drop o).take n'))) := by
    simp only [ev]
    rw [put_ne hxl, view_put (by simpa [Opd.slot] using a2)]
    split
    · rename_i e m xs hx
      have hlx : l ≠ x := fun e => by rw [e, hx] at hl; cases hl
      simp only [Prod.mk.injEq, true_and]
      rw [rid_put a1 hk, free_put hlx (hk x), put_comm (Ne.symm a1)]
    · simp only [Prod.mk.injEq, true_and]
      rw [rid_put a1 hk, put_comm (Ne.symm a1)]
  simp only at c1 ⊢
  rw [hE] at c1 ⊢
  refine ⟨(ev st d (.asg (.t x))).2, ⟨c1, rfl⟩, (tr_head rfl).2 ⟨_, ys_rl.2 ⟨?_, cs, o, ?_, hle, rfl⟩, rfl⟩⟩
  · simp only [ev]
    split
    · rename_i e m xs hx
      have hlx : l ≠ x := fun e => by rw [e, hx] at hl; cases hl
      dsimp only
      rw [put_ne a1, free_ne hlx]
      cases hq : (((st.rid d) l).kill x).isHome with
      | false => rfl
      | true => have := home_kill hq; rw [rid_home2 hl] at this; cases this
    · dsimp only; rw [put_ne a1]; exact rid_home2 hl
  · simp only [ev]
    split
    · rename_i e m xs hx
      by_cases hxd : x = d
      · exfalso
        simp only [ev] at c1
        rw [hx] at c1
        exact c1 hxd
      · dsimp only
        rw [put_ne hds, free_roAt (by rw [rid_home hxd (by rw [hx]; rfl), hx]; rfl), rid_roAt]; exact hs
    · dsimp only; rw [put_ne hds, rid_roAt]; exact hs
theorem comm_el {p q : POp} {avoid : List Nat} {s1 s2 : ASt} (hr : Real w0 S n st) (hp : p.ap = some avoid) (hq : q.isRl = true) (ha : p.apart q = true) (hav : avoid.contains q.dst = true) (h1 : Tr P st p s1) (h2 : Tr P s1 q s2) : ∃ s1', Tr P st q s1' ∧ Tr P s1' p s2 := by
  obtain ⟨a1, a2, a3⟩ := apart_spec ha
  unfold POp.isRl at hq
  split at hq
  rotate_left
  · cases hq
  rename_i l n' s
  unfold POp.ap at hp
  split at hp
  rotate_left
  · cases hp
  rename_i d e m b x y avoid'
  injection hp with hp
  subst hp
  simp only [POp.slots, PO.slots, Opd.slot, List.append_nil, List.mem_singleton, List.mem_append, not_or] at a1 a2 a3
  obtain ⟨hno, c1, rfl⟩ := h1
  obtain ⟨av, hy, rfl⟩ := (tr_head rfl).1 h2
  obtain ⟨hl, cs, o, hs, hle, rfl⟩ := ys_rl.1 hy
  have hk : ∀ k, (AV.agg ((cs.drop o).take n')).kill k = .agg ((cs.drop o).take n') := fun _ => rfl
  have hav' : l ∈ avoid' := by simpa using hav
  have a2' : s ≠ d := Ne.symm a2
  -- what holds ahead of the append
  have key : (st l).isHome = false ∧ st s = .roAt cs o := by
    simp only [ev] at c1 hl hs
    split at c1
    · rename_i ys hys
      rw [hys] at hl hs
      simp only at hl hs
      split at c1
      · rename_i h hh
        rw [hh] at hl hs
        simp only at hl hs
        split at c1
        · rename_i e' m' xs hxs
          rw [hxs] at hl hs
          simp only at hl hs
          have hlh : l ≠ h := fun e => hno h hh (e ▸ hav')
          rw [put_ne (Ne.symm a1), free_ne hlh] at hl
          rw [put_ne a2', free_roAt (by rw [hxs]; rfl)] at hs
          refine ⟨?_, hs⟩
          cases hq : (st l).isHome with
          | false => rfl
          | true => rw [kill_home hq, hq] at hl; cases hl
        · exact c1.elim
      · rename_i hh
        rw [hh] at hl hs
        simp only at hl hs
        rw [put_ne (Ne.symm a1)] at hl
        rw [put_ne a2'] at hs
        exact ⟨hl, hs⟩
      · exact c1.elim
    · exact c1.elim
  obtain ⟨hl0, hs0⟩ := key
  have vx : view (st.put l (.agg ((cs.drop o).take n'))) (.t x) = view st (.t x) := view_put (by simpa [Opd.slot] using a3.1)
  have vy : view (st.put l (.agg ((cs.drop o).take n'))) (.t y) = view st (.t y) := view_put (by simpa [Opd.slot] using a3.2)
  have hE : ev (st.put l (.agg ((cs.drop o).take n'))) d (.app e m b (.t x) (.t y)) = ((ev st d (.app e m b (.t x) (.t y))).1, (ev st d (.app e m b (.t x) (.t y))).2.put l (.agg ((cs.drop o).take n'))) := by
    simp only [ev] at c1 ⊢
    rw [vx, vy, row_put hl0 (view_tgt hr (.t y)), put_ne a1]
    split at c1
    · rename_i ys hys
      try rw [hys]
      try dsimp only
      split at c1
      · rename_i h hh
        try rw [hh]
        try dsimp only
        split at c1
        · rename_i e' m' xs hxs
          have hlh : l ≠ h := fun e => hno h hh (e ▸ hav')
          try rw [put_ne (Ne.symm hlh)]
          try rw [hxs]
          simp only [Prod.mk.injEq, true_and]
          rw [free_put hlh (hk h), put_comm a1]
        · exact c1.elim
      · rename_i hh
        try rw [hh]
        simp only [Prod.mk.injEq, true_and]
        rw [put_comm a1]
      · exact c1.elim
    · exact c1.elim
  refine ⟨st.put l (.agg ((cs.drop o).take n')), (tr_head rfl).2 ⟨_, ys_rl.2 ⟨hl0, cs, o, hs0, hle, rfl⟩, rfl⟩, ?_, ?_, ?_⟩
  · intro h hh; rw [vx] at hh; exact hno h hh
  · rw [hE]; exact c1
  · rw [hE]
theorem comm3_any {p q : POp} {s1 s2 : ASt} (hr : Real w0 S n st) (hc : p.comm3 q = true) (h1 : Tr P st p s1) (h2 : Tr P s1 q s2) : ∃ s1', Tr P st q s1' ∧ Tr P s1' p s2 := by
  unfold POp.comm3 at hc
  rw [Bool.or_eq_true, Bool.or_eq_true, Bool.or_eq_true] at hc
  rcases hc with ((hc | hc) | hc) | hc
  rotate_left 2
  · simp only [Bool.and_eq_true] at hc
    exact comm_le hr hc.1.1 hc.1.2 hc.2 h1 h2
  · cases ht : p.ap with
    | none => rw [ht] at hc; cases hc
    | some avoid =>
      rw [ht] at hc
      simp only [Bool.and_eq_true] at hc
      exact comm_el hr ht hc.1.1 hc.1.2 hc.2 h1 h2
  · exact comm_any hr hc h1 h2
  · cases ht : p.tk with
    | none => rw [ht] at hc; cases hc
    | some avoid =>
      rw [ht] at hc
      simp only [Bool.and_eq_true] at hc
      exact comm_tk hr ht hc.1.1 hc.1.2 hc.2 h1 h2
/-- What has come up waits for nothing that has not. -/
def Closed (ops : Array Oper) (listed : Array Bool) : Prop := ∀ j i, listed.getD j true = true → j < ops.size → i < ops.size → Region.waitsFor .any ops j i = true → listed.getD i true = true
theorem waitsT_not {ops : Array Oper} {listed : Array Bool} (hc : Closed ops listed) {i : Nat} (hi : i < ops.size) (hu : listed.getD i true = false) : ∀ (f j : Nat), j < ops.size → waitsT ops f j i = true → listed.getD j true = false ∧ ∃ m, m < ops.size ∧ Region.waitsFor .any ops j m = true ∧ listed.getD m true = false
  | 0, _, _, h => by cases h
  | f + 1, j, hj, h => by
    simp only [waitsT, Bool.or_eq_true, List.any_eq_true, List.mem_range, Bool.and_eq_true] at h
    have key : ∃ m, m < ops.size ∧ Region.waitsFor .any ops j m = true ∧ listed.getD m true = false := by
      rcases h with h | ⟨m, hm, h1, h2⟩
      · exact ⟨i, hi, h, hu⟩
      · exact ⟨m, hm, h1, (waitsT_not hc hi hu f m hm h2).1⟩
    refine ⟨?_, key⟩
    obtain ⟨m, hm, h1, h2⟩ := key
    cases hq : listed.getD j true with
    | false => rfl
    | true => rw [hc j m hq hj hm h1] at h2; cases h2
theorem ready_not {ops : Array Oper} {listed : Array Bool} (hc : Closed ops listed) {i j f : Nat} (hi : i < ops.size) (hu : listed.getD i true = false) (hj : j ∈ Region.ready .any ops listed) : waitsT ops f j i = false := by
  cases hq : waitsT ops f j i with
  | false => rfl
  | true =>
    obtain ⟨_, oj', hoj', hall⟩ := mem_ready.1 hj
    have hjs : j < ops.size := (Array.getElem?_eq_some_iff.1 hoj').1
    obtain ⟨_, m, _, h1, h2⟩ := waitsT_not hc hi hu f j hjs hq
    obtain ⟨oj, hoj, e, he, hb, hon⟩ := Region.waitsFor_spec h1
    rw [hoj] at hoj'; injection hoj' with hoj'; subst hoj'
    have h3 := hall e he hb
    rw [hon, getD_both h2] at h3
    cases h3
theorem closed_set {ops : Array Oper} {listed : Array Bool} (hc : Closed ops listed) {j : Nat} (hj : j ∈ Region.ready .any ops listed) : Closed ops (listed.setIfInBounds j true) := by
  intro a b ha hal hb hw
  by_cases hab : b = j
  · subst hab
    obtain ⟨h1, _⟩ := mem_ready.1 hj
    have hlt : b < listed.size := by
      rw [Array.getD_eq_getD_getElem?] at h1
      by_cases hq : b < listed.size
      · exact hq
      · rw [Array.getElem?_eq_none (by omega)] at h1; cases h1
    simp [Array.getD_eq_getD_getElem?, hlt]
  · rw [getD_set_ne true (Ne.symm hab)]
    by_cases haj : a = j
    · subst haj
      obtain ⟨oj, hoj, e, he, hbd, hon⟩ := Region.waitsFor_spec hw
      obtain ⟨_, oj', hoj', hall⟩ := mem_ready.1 hj
      rw [hoj] at hoj'; injection hoj' with hoj'; subst hoj'
      have h3 := hall e he hbd
      rw [hon] at h3
      cases hq : listed.getD b true with
      | true => rfl
      | false => rw [getD_both hq] at h3; cases h3
    · rw [getD_set_ne true (Ne.symm haj)] at ha
      exact hc a b ha hal hb hw
theorem wpT3_first {ops : Array Oper} {ps : List POp} {i : Nat} {p : POp} {L : Array Bool → ASt → Prop} (hok : okOps P n ops ops.toList ps = true) (hp : ps[i]? = some p) (hdone : ∀ listed st, L listed st → Region.ready .any ops listed = []) :
    ∀ (f : Nat) (listed : Array Bool) (st s1 : ASt), Real w0 S n st → Closed ops listed →
      (∀ j q, ps[j]? = some q → j < ops.size → j ≠ i → listed.getD j true = false → waitsT ops ops.size j i = false → p.comm3 q = true) →
      i ∈ Region.ready .any ops listed → Tr P st p s1 → wpT P ops ps L f (listed.setIfInBounds i true) s1 → wpT P ops ps L (f + 1) listed st := by
  intro f
  induction f with
  | zero =>
    intro listed st s1 _ _ _ hr hy H
    refine ⟨fun h => (by rw [h] at hr; cases hr), fun j hj => ?_⟩
    by_cases hji : j = i
    · subst hji; exact ⟨p, hp, s1, hy, H⟩
    · have h1 := ready_mono hj hji
      rw [hdone _ _ H] at h1
      cases h1
  | succ f ih =>
    intro listed st s1 hreal hcl hfree hr hy H
    refine ⟨fun h => (by rw [h] at hr; cases hr), fun j hj => ?_⟩
    by_cases hji : j = i
    · subst hji; exact ⟨p, hp, s1, hy, H⟩
    · obtain ⟨q, hq, s2, hy2, H2⟩ := H.2 j (ready_mono hj hji)
      obtain ⟨_, oj, hoj, _⟩ := mem_ready.1 hj
      obtain ⟨hiu, oi, hoi, _⟩ := mem_ready.1 hr
      have hjs : j < ops.size := (Array.getElem?_eq_some_iff.1 hoj).1
      have his : i < ops.size := (Array.getElem?_eq_some_iff.1 hoi).1
      have hcm := hfree j q hq hjs hji (mem_ready.1 hj).1 (ready_not hcl his hiu hj)
      obtain ⟨s1', k1, k2⟩ := comm3_any hreal hcm hy hy2
      have hokj := (okOps_at _ _ hok).2 j oj q (by simpa using hoj) hq
      refine ⟨q, hq, s1', k1, ih (listed.setIfInBounds j true) s1' s2 (real_tr hreal hokj k1) (closed_set hcl hj) (fun k r hk hks hki hun hw => ?_) (ready_mono hr (Ne.symm hji)) k2 ?_⟩
      · refine hfree k r hk hks hki ?_ hw
        by_cases hkj : k = j
        · subst hkj; exact (mem_ready.1 hj).1
        · rw [getD_set_ne true (Ne.symm hkj)] at hun; exact hun
      · rw [Array.setIfInBounds_comm _ _ hji]
        exact H2
theorem step_tr3 {p : POp} {K : ASt → Prop} (hp : p.one0 = true) : opStep P st p K ↔ ∃ st', Tr P st p st' ∧ K st' := by
  unfold POp.one0 at hp
  split at hp
  · rename_i d f args avoid
    cases args with
    | nil =>
      simp only [opStep, opCore, Tr]
      constructor
      · exact fun h => h.elim
      · rintro ⟨_, h, _⟩; exact h.elim
    | cons x r =>
      simp only [opStep, opCore, Tr]
      constructor
      · rintro ⟨h1, h2, ⟨k, e, m, xs, res, h3, h4, h5, h6, h7⟩ | ⟨e, m, res, h3, h4, h5, h6⟩⟩
        · exact ⟨_, ⟨h1, h2, .inl ⟨k, e, m, xs, res, h3, h4, h5, h6, rfl⟩⟩, h7⟩
        · exact ⟨_, ⟨h1, h2, .inr ⟨e, m, res, h3, h4, h5, rfl⟩⟩, h6⟩
      · rintro ⟨s, ⟨h1, h2, ⟨k, e, m, xs, res, h3, h4, h5, h6, rfl⟩ | ⟨e, m, res, h3, h4, h5, rfl⟩⟩, h7⟩
        · exact ⟨h1, h2, .inl ⟨k, e, m, xs, res, h3, h4, h5, h6, h7⟩⟩
        · exact ⟨h1, h2, .inr ⟨e, m, res, h3, h4, h5, h7⟩⟩
  · simp only [opStep, opCore, Tr]
    constructor
    · rintro ⟨h1, h2⟩; exact ⟨_, ⟨h1, rfl⟩, h2⟩
    · rintro ⟨_, ⟨h1, rfl⟩, h2⟩; exact ⟨h1, h2⟩
  · simp only [opStep, opCore, Tr]
    constructor
    · rintro ⟨h1, h2⟩; exact ⟨_, ⟨h1, rfl⟩, h2⟩
    · rintro ⟨_, ⟨h1, rfl⟩, h2⟩; exact ⟨h1, h2⟩
  · simp only [opStep, opCore, Tr]
    constructor
    · rintro ⟨h0, h1, h2⟩; exact ⟨_, ⟨h0, h1, rfl⟩, h2⟩
    · rintro ⟨_, ⟨h0, h1, rfl⟩, h2⟩; exact ⟨h0, h1, h2⟩
  · exact step_tr hp
theorem wpT3_lex {ops : Array Oper} {ps : List POp} {K : ASt → Prop} (hok : okOps P n ops ops.toList ps = true) (hone : ps.all POp.one0 = true) :
    ∀ (l : List POp) (k : Nat) (listed : Array Bool) (st : ASt), (∀ j, j < l.length → l[j]? = ps[k + j]?) → Real w0 S n st → Closed ops listed → pLex3 ops ps l.length k listed = true → opsWP P l K st →
      wpT P ops ps (fun listed' st' => Region.ready .any ops listed' = [] ∧ K st') l.length listed st
  | [], k, listed, st, _, _, _, hB, h => ⟨by simpa [pLex3] using hB, h⟩
  | p :: l, k, listed, st, hl, hreal, hcl, hB, h => by
    have hp : ps[k]? = some p := by simpa using (hl 0 (by simp)).symm
    have hp1 : p.one0 = true := List.all_eq_true.1 hone p (List.mem_of_getElem? hp)
    simp only [List.length_cons, pLex3, Bool.and_eq_true] at hB
    obtain ⟨⟨hr, hf⟩, hB'⟩ := hB
    have hr' : k ∈ Region.ready .any ops listed := by simpa using hr
    obtain ⟨_, o, ho, _⟩ := mem_ready.1 hr'
    have hop := (okOps_at _ _ hok).2 k o p (by simpa using ho) hp
    simp only [pFree3, hp, List.all_eq_true, List.mem_range] at hf
    obtain ⟨s1, hy, hK⟩ := (step_tr3 hp1).1 h
    refine wpT3_first hok hp (fun _ _ hL => hL.1) l.length listed st s1 hreal hcl (fun j q hq hjn hji hun hw => ?_) hr' hy ?_
    · have := hf j hjn
      simp only [Bool.or_eq_true, beq_iff_eq, hji, false_or, hun, Bool.false_eq_true, hw, hq] at this
      exact this
    · exact wpT3_lex hok hone l (k + 1) _ _ (fun j hj => by have := hl (j + 1) (by simp; omega); simpa [Nat.add_assoc, Nat.add_comm 1 j] using this) (real_tr hreal hop hy) (closed_set hcl hr') hB' hK
theorem getD_replicate_false_in {N j : Nat} (h : j < N) : (Array.replicate N false).getD j true = false := by
  simp [Array.getD_eq_getD_getElem?, h]
theorem region_draw {id : Nat} {ops : Array Oper} {ps : List POp} {K : ASt → Prop} {Q : Exit → Act → World → Prop} (hm : P.follows .mixedOrders = true) (hok : okOps P n ops ops.toList ps = true) (hd : drawOK ops ps = true) (h : FR w0 S n st β a w) (hK : opsWP P ps K st)
    (hQ : ∀ st' β' a' w', FR w0 S n st' β' a' w' → K st' → Q .normal a' w') : (Code.region id ops true).wp P Q a w := by
  unfold drawOK at hd
  rw [Bool.or_eq_true, Bool.or_eq_true] at hd
  have hlen : ops.size = ps.length := by have := (okOps_at _ _ hok).1; simpa using this
  have hw : FR w0 S n st β a { w with drawn := w.drawn + 1 } := h.world (Below.refl w.heap.size w).drew
  rcases hd with (hd | hd) | hd
  · exact region_draw0 hm hok hd h hK hQ
  rotate_left
  · rw [Bool.and_eq_true] at hd
    obtain ⟨hone, hd⟩ := hd
    have hcl : Closed ops (Array.replicate ops.size false) := fun j i hj hjs _ _ => by rw [getD_replicate_false_in hjs] at hj; cases hj
    rw [hlen] at hd hcl
    have H := wpT3_lex (K := K) hok hone ps 0 _ st (fun j _ => by rw [Nat.zero_add]) ⟨β, a, _, hw⟩ hcl hd hK
    refine wp_region_any hm ?_
    rw [hlen]
    exact wpAny_of_T (Q := Q) hok (fun listed st' β' a' w' hf hL => ⟨hL.1, hQ _ _ _ _ hf hL.2⟩) _ _ _ _ _ _ hw H
  rw [hlen] at hd
  have H := wpT_lex (K := K) hok ps 0 _ st (fun j _ => by rw [Nat.zero_add]) ⟨β, a, _, hw⟩ hd hK
  refine wp_region_any hm ?_
  rw [hlen]
  exact wpAny_of_T (Q := Q) hok (fun listed st' β' a' w' hf hL => ⟨hL.1, hQ _ _ _ _ hf hL.2⟩) _ _ _ _ _ _ hw H
end
end Go.Proofs.Ytpecmhdepggnoaa
