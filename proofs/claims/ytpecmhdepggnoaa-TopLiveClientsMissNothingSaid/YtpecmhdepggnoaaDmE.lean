/- The machine on data: its operations that only look do what is said of them (rows, strings, structs). -/
import Derived.Test.YtpecmhdepggnoaaDmD
namespace Go.Proofs.Ytpecmhdepggnoaa
open Go.RowKit

theorem flatten_drop {α : Type} : ∀ (k : Nat) (xs : List (List α)) (m : Nat), (∀ x ∈ xs, x.length = m) → (xs.drop k).flatten = xs.flatten.drop (k * m)
  | 0, xs, m, _ => by simp
  | k + 1, [], m, _ => by simp
  | k + 1, x :: r, m, hm => by
    have hx := hm x (by simp)
    rw [List.drop_succ_cons, flatten_drop k r m (fun y hy => hm y (by simp [hy])), List.flatten_cons, Nat.add_mul, Nat.one_mul, Nat.add_comm, ← List.drop_drop]
    congr 1
    rw [List.drop_left' hx]
theorem flatten_take {α : Type} : ∀ (k : Nat) (xs : List (List α)) (m : Nat), (∀ x ∈ xs, x.length = m) → (xs.take k).flatten = xs.flatten.take (k * m)
  | 0, xs, m, _ => by simp
  | k + 1, [], m, _ => by simp
  | k + 1, x :: r, m, hm => by
    have hx := hm x (by simp)
    rw [List.take_succ_cons, List.flatten_cons, List.flatten_cons, flatten_take k r m (fun y hy => hm y (by simp [hy])), Nat.add_mul, Nat.one_mul, Nat.add_comm, ← hx, List.take_length_add_append]

/-- Part of a slice that nobody writes. -/
theorem ro_slice {w : World} {I : Nat → Prop} {xs : List (List AV)} {A : Option Addr} {n c l h m : Nat} (hr : Rel w I (.ro xs) (.slice A n c)) (hm : ∀ x ∈ xs, x.length = m) (hl : l ≤ h) (hh : h ≤ xs.length) :
    n = xs.length ∧ (xs.length ≤ c ∧ Rel w I (.ro ((xs.take h).drop l)) (sliced A l h c m)) := by
  have hlen : ((xs.take h).drop l).length = h - l := by simp; omega
  cases hr with
  | ro0 A c =>
    simp at hh
    subst hh
    have : l = 0 := by omega
    subst this
    refine ⟨rfl, Nat.zero_le _, ?_⟩
    unfold sliced
    exact Rel.ro0 _ _
  | ro _ b off c m' f hb hm' hc hx hcell hrel =>
    refine ⟨rfl, hc, ?_⟩
    by_cases hlh : l = h
    · subst hlh
      have : (xs.take l).drop l = [] := by simp
      rw [this]
      unfold sliced
      rw [Nat.sub_self]
      exact Rel.ro0 _ _
    · have hmm : m' = m := by
        have h0 : 0 < xs.length := by omega
        rw [← hm xs[0] (List.getElem_mem h0), hm' xs[0] (List.getElem_mem h0)]
      subst hmm
      unfold sliced
      rw [if_neg (by omega), Option.map_some, Addr.add_mid]
      have key := Rel.ro (w := w) (I := I) ((xs.take h).drop l) b (off + l * m') (c - l) m' (fun j => f (l * m' + j)) hb (fun x hx => hm x (List.mem_of_mem_take (List.mem_of_mem_drop hx))) (by rw [hlen]; omega) (by rw [hlen]; omega)
        (fun j hj => by
          rw [hlen, Nat.sub_mul] at hj
          have : h * m' ≤ xs.length * m' := Nat.mul_le_mul_right _ hh
          rw [Nat.add_assoc]; exact hcell (l * m' + j) (by omega))
        (fun j av hj => by
          rw [flatten_drop l _ m' (fun x hx => hm x (List.mem_of_mem_take hx)), List.getElem?_drop, flatten_take h xs m' hm, List.getElem?_take] at hj
          split at hj
          · exact hrel _ _ hj
          · cases hj)
      rw [hlen] at key
      exact key

section
variable {P : Program} {w0 : Ent} {w : World} {S : Nat → Prop} {n : Lim} {st : ASt} {β : Bt} {a : Act} {o : Oper}
theorem look_idx {t : TypeId} {m : Nat} {x i : Operand} {x' i' : Opd} (ho : o.op = .indexAddr t x i) (h : FR w0 S n st β a w) (ht : sliceT P t m = true) (hx : okOpd x x' = true) (hi : okOpd i i' = true) (hp : (hv st (.idx m x' i')).1) :
    Looks P w0 S st β a w o (hv st (.idx m x' i')).2 := by
  obtain ⟨hu, ti, hti, hsz⟩ := slice_T ht
  have run : ∀ (b off len c : Nat) (k : IntKind) (j : Int), a.eval x = .slice (some ⟨b, off, none⟩) len c → a.eval i = .int k j → 0 ≤ j → j < len → (execOp a.eval o).run P w = .ok (.value (.pointer (some ⟨b, off + j.toNat * m, none⟩))) w := fun b off len c k j e1 e2 h0 h1 => by
    simp only [execOp, ho, e1, e2, Sem.run_bind, run_indexAt_slice (P := P) (w := w) t _ len c k j hu]
    rw [if_pos ⟨h0, h1⟩]
    simp [sizeOf, typeInfo, hti, hsz, Addr.add_mid]
  have hvo := view_ok h hx
  revert hp hvo
  simp only [hv]
  split
  · rename_i xs k j h1 h2
    intro ⟨h0, hlt, hlen⟩ hvo
    have e2 := vval h hi h2
    rw [h1] at hvo
    revert hvo; generalize hva : a.eval x = va; intro hvo
    cases hvo with
    | ro0 A c => simp at hlt; omega
    | ro _ b off c m' f hb hm hc hxl hcell hrel =>
      have hjn : j.toNat < xs.length := by omega
      have hmm : m' = m := by rw [← hlen]; exact (getD_mem hm hjn).symm
      subst hmm
      refine ⟨_, run b off _ c k j hva e2 h0 hlt, ?_⟩
      have := Rel.roAt (w := w) (I := Imm S w0 w β) (xs.getD j.toNat []) b (off + j.toNat * m') 0 (fun q => f (j.toNat * m' + q)) hb
        (fun q hq => by
          rw [hlen] at hq
          have : (j.toNat + 1) * m' ≤ xs.length * m' := Nat.mul_le_mul_right _ hjn
          rw [Nat.add_mul] at this
          rw [Nat.add_assoc]; exact hcell _ (by omega))
        (fun q av hq => by
          have hqm : q < m' := by have := (List.getElem?_eq_some_iff.1 hq).1; omega
          exact hrel _ av (by rw [flatten_at xs m' j.toNat q hm hjn hqm]; exact hq))
      exact this
  · rename_i d k j h1 h2
    intro hp hvo
    have e2 := vval h hi h2
    rw [h1] at hvo
    revert hp
    split
    · rename_i e m' xs hd
      intro ⟨hmm, h0, hlt⟩
      subst hmm
      obtain ⟨_, hva⟩ := hvo
      have hs := h.slot d
      rw [hd] at hs
      have hs2 := hs
      obtain ⟨A, c, hA, hc, hxl, hcells⟩ := own_row hs
      have hne : xs ≠ [] := fun e => by rw [e] at hlt; simp at hlt; omega
      obtain ⟨b, off, m2, f, hAb, hb, _⟩ := hcells hne
      subst hAb
      obtain ⟨cells, hown, hm, hpos, hbo, _⟩ := hs2
      have hoff : off = 0 := by
        rcases hown.2 with ⟨hv, _⟩ | ⟨g', cap, cur, hv, _⟩
        · rw [hA] at hv; cases hv
        · rw [hA] at hv; injection hv with hv; injection hv with hv; injection hv
      subst hoff
      have hβ : β d = some b := by rw [← hbo, hA]; rfl
      exact ⟨_, run b 0 _ c k j (hva.trans hA) e2 h0 hlt, e, m', xs, b, hd, by omega, hβ, by simp⟩
    · exact fun h => h.elim
  · exact fun h _ => h.elim
theorem look_idxs {t : TypeId} {x i : Operand} {x' i' : Opd} (ho : o.op = .index t x i) (h : FR w0 S n st β a w) (ht : stringT P t = true) (hx : okOpd x x' = true) (hi : okOpd i i' = true) (hp : (hv st (.idxs x' i')).1) :
    Looks P w0 S st β a w o (hv st (.idxs x' i')).2 := by
  revert hp
  simp only [hv]
  split
  · rename_i s k j h1 h2
    intro ⟨h0, hlt⟩
    have e1 := vval h hx h1
    have e2 := vval h hi h2
    refine ⟨_, ?_, Rel.val _⟩
    simp only [execOp, ho, e1, e2, Sem.run_bind, run_index_string (P := P) (w := w) t s k j (string_T ht)]
    rw [dif_pos ⟨h0, hlt⟩]
    have hj : j.toNat < s.data.toList.length := by simp; omega
    have : s.data.toList.getD j.toNat 0 = s[j.toNat]'(by omega) := by
      rw [List.getD_eq_getElem?_getD, List.getElem?_eq_getElem hj]; rfl
    rw [this]
    rfl
  · exact fun h => h.elim
theorem args1 {xs : Array Operand} {x : Operand} (h : xs.toList = [x]) : xs = #[x] := by cases xs; simp at h; rw [h]
theorem args1t {xs : Array TypeId} {x : TypeId} (h : xs.toList = [x]) : xs = #[x] := by cases xs; simp at h; rw [h]
theorem look_len {t m : TypeId} {args : Array Operand} {ats : Array TypeId} {x : Operand} {x' : Opd} (ho : o.op = .call { callee := .builtin .len, args, argTypes := ats }) (h : FR w0 S n st β a w) (ha : args.toList = [x]) (hat : ats.toList = [t])
    (hx : okOpd x x' = true) (ht : sliceT P t m = true) (hp : (hv st (.len x')).1) : Looks P w0 S st β a w o (hv st (.len x')).2 := by
  rw [args1 ha, args1t hat] at ho
  have hvo := view_ok h hx
  revert hp
  simp only [hv]
  split
  · rename_i xs h1
    intro _
    obtain ⟨A, c, hA, _⟩ := row_ok h hvo h1
    exact ⟨_, by simp [execOp, ho, resolve, invoke, builtin, Builtin.len_, run_underlying (slice_T ht).1, hA, goInt], Rel.val _⟩
  · exact fun h => h.elim
theorem look_lens {t : TypeId} {args : Array Operand} {ats : Array TypeId} {x : Operand} {x' : Opd} (ho : o.op = .call { callee := .builtin .len, args, argTypes := ats }) (h : FR w0 S n st β a w) (ha : args.toList = [x]) (hat : ats.toList = [t])
    (hx : okOpd x x' = true) (ht : stringT P t = true) (hp : (hv st (.lens x')).1) : Looks P w0 S st β a w o (hv st (.lens x')).2 := by
  rw [args1 ha, args1t hat] at ho
  revert hp
  simp only [hv]
  split
  · rename_i s h1
    intro _
    have e1 := vval h hx h1
    exact ⟨_, by simp [execOp, ho, resolve, invoke, builtin, Builtin.len_, run_underlying (string_T ht), e1, goInt], Rel.val _⟩
  · exact fun h => h.elim
theorem look_ext {i : Nat} {x : Operand} {x' : Opd} (ho : o.op = .extract x i) (h : FR w0 S n st β a w) (hx : okOpd x x' = true) (hp : (hv st (.ext i x')).1) : Looks P w0 S st β a w o (hv st (.ext i x')).2 := by
  have hvo := view_ok h hx
  revert hp hvo
  simp only [hv]
  split
  · rename_i vs h1
    intro hp hvo
    rw [h1] at hvo
    revert hvo; generalize hva : a.eval x = va; intro hvo
    cases hvo with
    | tup _ us hl hrel =>
      have hi : i < us.size := by omega
      obtain ⟨u, hg⟩ : ∃ u, us[i]? = some u := ⟨_, Array.getElem?_eq_getElem hi⟩
      have hgd : us.getD i undef = u := by rw [Array.getD_eq_getD_getElem?, hg]; rfl
      refine ⟨u, by simp [execOp, ho, hva, Instr.extract, hg], ?_⟩
      rw [← hgd]
      have := hrel i (vs.getD i .junk) (by rw [List.getD_eq_getElem?_getD, List.getElem?_eq_getElem hp]; rfl)
      revert this
      cases vs.getD i .junk <;> intro this <;> first | exact this | cases this
  · exact fun h _ => h.elim
theorem look_nilck {x : Operand} {x' : Opd} (ho : o.op = .nilCheck x) (h : FR w0 S n st β a w) (hx : okOpd x x' = true) (hp : (hv st (.nilck x')).1) : Looks P w0 S st β a w o (hv st (.nilck x')).2 := by
  have hvo := view_ok h hx
  have run : ∀ q, a.eval x = .pointer (some q) → (execOp a.eval o).run P w = .ok (.value (.pointer (some q))) w := fun q e => by simp only [execOp, ho, e]; rfl
  revert hp hvo
  simp only [hv]
  split <;> intro hp hvo
  · rename_i cs q h1
    rw [h1] at hvo
    revert hvo; generalize hva : a.eval x = va; intro hvo
    cases hvo with
    | roAt _ b p _ f hb hcell hrel => exact ⟨_, run _ hva, Rel.roAt _ b p _ f hb hcell hrel⟩
  · rename_i d q h1
    rw [h1] at hvo
    obtain ⟨h2, g, hg, e⟩ := hvo
    exact ⟨_, run _ e, h2, g, hg, rfl⟩
  · rename_i d j q h1
    rw [h1] at hvo
    obtain ⟨e1, m, xs, g, h2, h3, h4, e⟩ := hvo
    exact ⟨_, run _ e, e1, m, xs, g, h2, h3, h4, rfl⟩
  · exact hp.elim
theorem args2 {xs : Array Operand} {x y : Opd} (h : okOpds xs.toList [x, y] = true) : ∃ p q, xs = #[p, q] ∧ okOpd p x = true ∧ okOpd q y = true := by
  obtain ⟨l⟩ := xs
  match l, h with
  | [p, q], h =>
    simp [okOpds] at h
    exact ⟨p, q, rfl, h.1, h.2⟩
  | [], h => simp [okOpds] at h
  | [p], h => simp [okOpds] at h
  | p :: q :: r :: s, h => simp [okOpds] at h
theorem look_minmax {mx : Bool} {args : Array Operand} {ats : Array TypeId} {x' y' : Opd} (ho : o.op = .call { callee := .builtin (if mx then .max else .min), args, argTypes := ats }) (h : FR w0 S n st β a w) (hx : okOpds args.toList [x', y'] = true)
    (hp : (hv st (.minmax mx x' y')).1) : Looks P w0 S st β a w o (hv st (.minmax mx x' y')).2 := by
  obtain ⟨p, q, rfl, h1, h2⟩ := args2 hx
  revert hp
  simp only [hv]
  split
  · rename_i k u k' v e1 e2
    intro _
    have f1 := vval h h1 e1
    have f2 := vval h h2 e2
    refine ⟨_, ?_, Rel.val _⟩
    cases mx
    · simp [execOp, ho, resolve, invoke, builtin, f1, f2, run_min_int2]
    · simp [execOp, ho, resolve, invoke, builtin, f1, f2, run_max_int2]
  · exact fun h => h.elim
/-- A bound of a slice expression, as it is run. -/
theorem bnd_ok (h : FR w0 S n st β a w) {d : Nat} {lo : Option Operand} {lo' : Option Opd} (hx : okOpt lo lo' = true) (hp : (bnd st d lo').1) : (lo = none ∧ (bnd st d lo').2 = d) ∨ ∃ x k j, lo = some x ∧ a.eval x = .int k j ∧ 0 ≤ j ∧ (bnd st d lo').2 = j.toNat := by
  cases lo <;> cases lo' <;> simp only [okOpt] at hx
  · exact .inl ⟨rfl, rfl⟩
  · cases hx
  · cases hx
  · rename_i x y
    right
    revert hp
    simp only [bnd]
    split
    · rename_i k j e
      intro h0
      exact ⟨x, k, j, rfl, vval h hx e, h0, rfl⟩
    · exact fun h => h.elim
theorem bounds_run (isS : Bool) (lo hi : Option Value) (len cap l hh : Nat) (w : World) (hlo : (lo = none ∧ l = 0) ∨ ∃ k j, lo = some (.int k j) ∧ 0 ≤ j ∧ l = j.toNat) (hhi : (hi = none ∧ hh = len) ∨ ∃ k j, hi = some (.int k j) ∧ 0 ≤ j ∧ hh = j.toNat) (h1 : l ≤ hh) (h2 : hh ≤ len) (h3 : len ≤ cap) :
    (Instr.sliceBounds isS len cap lo hi none).run P w = .ok (l, hh, cap) w := by
  rcases hlo with ⟨rfl, rfl⟩ | ⟨k, j, rfl, h0, rfl⟩ <;> rcases hhi with ⟨rfl, rfl⟩ | ⟨k2, j2, rfl, h02, rfl⟩
  · simp [Instr.sliceBounds]
  · simp [Instr.sliceBounds, run_sliceBound (P := P) w k2 j2 cap _ h02 (by omega)]
  · simp [Instr.sliceBounds, run_sliceBound (P := P) w k j hh _ h0 (by omega)]
  · simp [Instr.sliceBounds, run_sliceBound (P := P) w k2 j2 cap _ h02 (by omega), run_sliceBound (P := P) w k j j2.toNat _ h0 (by omega)]
theorem opt_map {ρ : Operand → Value} {lo : Option Operand} {l d : Nat} (h : (lo = none ∧ l = d) ∨ ∃ x k j, lo = some x ∧ ρ x = .int k j ∧ 0 ≤ j ∧ l = j.toNat) : (lo.map ρ = none ∧ l = d) ∨ ∃ k j, lo.map ρ = some (.int k j) ∧ 0 ≤ j ∧ l = j.toNat := by
  rcases h with ⟨rfl, h⟩ | ⟨x, k, j, rfl, e, h⟩
  · exact .inl ⟨rfl, h⟩
  · exact .inr ⟨k, j, by simp [e], h⟩
theorem look_slc {t : TypeId} {m : Nat} {x : Operand} {lo hi : Option Operand} {x' : Opd} {lo' hi' : Option Opd} (ho : o.op = .slice t x lo hi none) (h : FR w0 S n st β a w) (ht : sliceT P t m = true) (hx : okOpd x x' = true) (hl : okOpt lo lo' = true) (hh : okOpt hi hi' = true)
    (hp : (hv st (.slc lo' hi' m x')).1) : Looks P w0 S st β a w o (hv st (.slc lo' hi' m x')).2 := by
  obtain ⟨hu, ti, hti, hsz⟩ := slice_T ht
  have run : ∀ (A : Option Addr) (len c l hh : Nat), a.eval x = .slice A len c → (Instr.sliceBounds true len c (lo.map a.eval) (hi.map a.eval) none).run P w = .ok (l, hh, c) w → (execOp a.eval o).run P w = .ok (.value (sliced A l hh c m)) w := fun A len c l hh e hb => by
    simp only [execOp, ho, e, Sem.run_bind, Option.map_none, run_sliceAt_slice (P := P) (w := w) t _ _ _ _ hu, run_slice_any (P := P) w t A len c hu, hb, Result.andThen_ok]
    simp [sizeOf, typeInfo, hti, hsz]
  have hvo := view_ok h hx
  revert hp hvo
  simp only [hv]
  split
  · rename_i xs h1
    intro ⟨q1, q2, q3, q4, q5⟩ hvo
    rw [h1] at hvo
    have b1 := opt_map (bnd_ok h hl q1)
    have b2 := opt_map (bnd_ok h hh q2)
    revert hvo; generalize hva : a.eval x = va; intro hvo
    have hsl : ∃ A l c, va = .slice A l c := by cases hvo <;> exact ⟨_, _, _, rfl⟩
    obtain ⟨A, l, c, rfl⟩ := hsl
    obtain ⟨rfl, hc, hr⟩ := ro_slice hvo q5 q3 q4
    exact ⟨_, run A _ c _ _ hva (bounds_run true _ _ _ _ _ _ w b1 b2 q3 q4 hc), hr⟩
  · rename_i h1
    intro ⟨q1, q2, q3, q4⟩ hvo
    rw [h1] at hvo
    have b1 := opt_map (bnd_ok h hl q1)
    have b2 := opt_map (bnd_ok h hh q2)
    revert hvo; generalize hva : a.eval x = va; intro hvo
    cases hvo with
    | nilsl =>
      refine ⟨_, run none 0 0 0 0 hva (bounds_run true _ _ _ _ _ _ w (by rw [q3] at b1; exact b1) (by rw [q4] at b2; exact b2) (Nat.le_refl _) (Nat.le_refl _) (Nat.le_refl _)), ?_⟩
      exact Rel.nilsl
  · exact fun h _ => h.elim
theorem look_slcs {t : TypeId} {x : Operand} {lo hi : Option Operand} {x' : Opd} {lo' hi' : Option Opd} (ho : o.op = .slice t x lo hi none) (h : FR w0 S n st β a w) (ht : stringT P t = true) (hx : okOpd x x' = true) (hl : okOpt lo lo' = true) (hh : okOpt hi hi' = true)
    (hp : (hv st (.slcs lo' hi' x')).1) : Looks P w0 S st β a w o (hv st (.slcs lo' hi' x')).2 := by
  revert hp
  simp only [hv]
  split
  · rename_i s h1
    intro ⟨q1, q2, q3, q4⟩
    have b1 := opt_map (bnd_ok h hl q1)
    have b2 := opt_map (bnd_ok h hh q2)
    have e1 := vval h hx h1
    refine ⟨_, ?_, Rel.val _⟩
    have := bounds_run (P := P) false _ _ s.size s.size _ _ w b1 b2 q3 q4 (Nat.le_refl _)
    simp only [execOp, ho, e1, Sem.run_bind, Option.map_none, run_sliceAt_string (P := P) (w := w) t _ _ _ _ (string_T ht)]
    simp [Instr.slice, run_underlying (string_T ht), this]
  · exact fun h => h.elim
theorem look_mkfn {fn : Fn} {first captured : Array Operand} {f : Nat} {cs : List Nat} (ho : o.op = .makeFunc fn first captured) (_h : FR w0 S n st β a w) (hf : fn = .func f) (h1 : first.toList.isEmpty = true) (hc : okOpds captured.toList (cs.map .t) = true) (hp : (hv st (.mkfn f cs)).1) :
    Looks P w0 S st β a w o (hv st (.mkfn f cs)).2 := by
  subst hf
  have hfirst : first = #[] := by cases first; simp at h1; rw [h1]
  subst hfirst
  have hcap : ∀ (l : List Operand) (cs : List Nat), okOpds l (cs.map .t) = true → l.map a.eval = cs.map fun d => a.tmps.getD d undef := by
    intro l
    induction l with
    | nil => intro cs h; cases cs <;> simp_all [okOpds]
    | cons x r ih =>
      intro cs h
      cases cs with
      | nil => simp [okOpds] at h
      | cons c s =>
        simp only [List.map_cons, okOpds, Bool.and_eq_true] at h
        rw [List.map_cons, List.map_cons, ih s h.2]
        congr 1
        have := h.1
        unfold okOpd at this
        split at this <;> simp_all [Act.eval]
  refine ⟨.func (.func f) #[] (cs.map fun d => a.tmps.getD d undef).toArray, ?_, hp, rfl⟩
  have := hcap _ _ hc
  have e : captured.map a.eval = (cs.map fun d => a.tmps.getD d undef).toArray := Array.ext' (by rw [Array.toList_map, this])
  simp [execOp, ho, Instr.makeFunc, e]
/-- A function that catches what nobody writes any more. -/
theorem look_mkfnr {fn : Fn} {first captured : Array Operand} {f : Nat} {cs : List Nat} (ho : o.op = .makeFunc fn first captured) (h : FR w0 S n st β a w) (hf : fn = .func f) (h1 : first.toList.isEmpty = true) (hc : okOpds captured.toList (cs.map .t) = true) (hp : (hv st (.mkfnr f cs)).1) :
    Looks P w0 S st β a w o (hv st (.mkfnr f cs)).2 := by
  subst hf
  have hfirst : first = #[] := by cases first; simp at h1; rw [h1]
  subst hfirst
  have hcap : ∀ (l : List Operand) (cs : List Nat), okOpds l (cs.map .t) = true → l.map a.eval = cs.map fun d => a.tmps.getD d undef := by
    intro l
    induction l with
    | nil => intro cs h; cases cs <;> simp_all [okOpds]
    | cons x r ih =>
      intro cs h
      cases cs with
      | nil => simp [okOpds] at h
      | cons c s =>
        simp only [List.map_cons, okOpds, Bool.and_eq_true] at h
        rw [List.map_cons, List.map_cons, ih s h.2]
        congr 1
        have := h.1
        unfold okOpd at this
        split at this <;> simp_all [Act.eval]
  have := hcap _ _ hc
  have e : captured.map a.eval = (cs.map fun d => a.tmps.getD d undef).toArray := Array.ext' (by rw [Array.toList_map, this])
  refine ⟨.func (.func f) #[] (cs.map fun d => a.tmps.getD d undef).toArray, by simp [execOp, ho, Instr.makeFunc, e], ?_⟩
  refine Rel.fnv f _ _ (by simp) fun j av hj => ?_
  rw [List.getElem?_map, Option.map_eq_some_iff] at hj
  obtain ⟨d, hd, rfl⟩ := hj
  obtain ⟨c, q, hcq⟩ := hp d (List.mem_of_getElem? hd)
  have hs := h.slot d
  rw [hcq] at hs ⊢
  have hg : (cs.map fun d => a.tmps.getD d undef).toArray.getD j undef = a.tmps.getD d undef := by
    rw [Array.getD_eq_getD_getElem?]; simp [hd]
  rw [hg]
  exact hs
end
end Go.Proofs.Ytpecmhdepggnoaa
