/- The machine on data: its operations that only look do what is said of them. -/
import Derived.Test.YtpecmhdepggnoaaDmC
import Derived.Laws.Strings
import Derived.Laws.Slices
import Derived.Laws.Strings2
namespace Go.Proofs.Ytpecmhdepggnoaa
open Go.RowKit

theorem bin_run {P : Program} (w : World) (op : BinOp) (t : TypeId) (x y : Operand) (va vb : Value) (h : (vbin op va vb).1) :
    ∃ u, (do eqGuard op t x y va vb; binOp op t va vb : Sem Value).run P w = .ok u w ∧ (vbin op va vb).2 = .val u := by
  revert h
  unfold vbin
  split <;> intro h
  case h_22 => exact h.elim
  case h_17 => exact ⟨_, by simp only [eqGuard, binOp]; simpa using run_string_add_sum (P := P) (w := w) _ _ h, rfl⟩
  case h_18 => exact ⟨_, by simp [eqGuard, binOp, Op.stringOp], rfl⟩
  case h_19 => exact ⟨_, by simp [eqGuard, binOp, Op.stringOp], rfl⟩
  case h_20 => exact ⟨_, by simp [eqGuard, binOp, Op.stringOp], rfl⟩
  case h_9 => exact ⟨_, by simp [eqGuard, binOp, Op.shift, Int.not_lt.2 h], rfl⟩
  case h_10 => exact ⟨_, by simp [eqGuard, binOp, Op.shift, Int.not_lt.2 h], rfl⟩
  case h_4 => obtain ⟨rfl, h2⟩ := h; exact ⟨_, by simp [eqGuard, binOp, Op.intDiv, h2], rfl⟩
  case h_5 => obtain ⟨rfl, h2⟩ := h; exact ⟨_, by simp [eqGuard, binOp, Op.intDiv, h2], rfl⟩
  all_goals
    obtain rfl := h
    refine ⟨_, ?_, rfl⟩
    rename_i k x y
    cases k <;> rfl
theorem un_run {P : Program} (w : World) (op : UnOp) (va : Value) (h : (vun op va).1) : ∃ u, (Op.unary op va).run P w = .ok u w ∧ (vun op va).2 = .val u := by
  revert h
  unfold vun
  split <;> intro h
  case h_3 => exact h.elim
  · exact ⟨_, by simp [Op.unary, Op.intArith], rfl⟩
  · exact ⟨_, by simp [Op.unary], rfl⟩

theorem slice_T {P : Program} {t : TypeId} {m : Nat} (h : sliceT P t m = true) : P.underlying t = some (.slice (P.elem t)) ∧ ∃ i, P.info? (P.elem t) = some i ∧ i.size = m := by
  unfold sliceT at h
  split at h
  · rename_i e he
    split at h
    · rename_i i hi
      have : P.elem t = e := by unfold Program.elem; rw [he]
      rw [this]
      exact ⟨he, i, hi, by simpa using h⟩
    · cases h
  · cases h
theorem string_T {P : Program} {t : TypeId} (h : stringT P t = true) : P.underlying t = some .string := by
  unfold stringT at h; split at h
  · assumption
  · cases h
theorem int_T {P : Program} {t : TypeId} {k : IntKind} (h : intT P t k = true) : P.underlying t = some (.int k) := by
  unfold intT at h; split at h
  · simp at h; subst h; assumption
  · cases h
theorem row_T {P : Program} {t : TypeId} (h : rowT P t = false) : ∃ d, P.underlying t = some d ∧ d.isRow = false := by
  unfold rowT at h; split at h
  · exact ⟨_, by assumption, h⟩
  · cases h

section
variable {P : Program} {w0 : Ent} {w : World} {S : Nat → Prop} {n : Lim} {st : ASt} {β : Bt} {a : Act} {o : Oper}
theorem vval (h : FR w0 S n st β a w) {x : Operand} {y : Opd} (hx : okOpd x y = true) {v : Value} (hv : view st y = .val v) : a.eval x = v := by
  have h1 := view_ok h hx
  rw [hv] at h1
  cases h1
  rfl
/-- What an operation that only looks leaves. -/
def Looks (P : Program) (w0 : Ent) (S : Nat → Prop) (st : ASt) (β : Bt) (a : Act) (w : World) (o : Oper) (av : AV) : Prop :=
  ∃ u, (execOp a.eval o).run P w = .ok (.value u) w ∧ VOk w (Imm S w0 w β) st β a.tmps u av

theorem look_mv {x : Operand} {x' : Opd} (ho : o.op = .move x ∨ o.op = .assign x) (h : FR w0 S n st β a w) (hx : okOpd x x' = true) : Looks P w0 S st β a w o (view st x') := by
  rcases ho with ho | ho <;> exact ⟨_, by simp [execOp, ho], view_ok h hx⟩
theorem look_pick {c a1 b1 : Operand} {c' a' b' : Opd} (ho : o.op = .pick c a1 b1) (h : FR w0 S n st β a w) (hc : okOpd c c' = true) (ha : okOpd a1 a' = true) (hb : okOpd b1 b' = true) (hp : (hv st (.pick c' a' b')).1) :
    Looks P w0 S st β a w o (hv st (.pick c' a' b')).2 := by
  revert hp
  simp only [hv]
  split
  · rename_i t hv
    intro _
    have e := vval h hc hv
    cases t
    · exact ⟨a.eval b1, by simp [execOp, ho, e, asBool], by simpa using view_ok h hb⟩
    · exact ⟨a.eval a1, by simp [execOp, ho, e, asBool], by simpa using view_ok h ha⟩
  · exact fun h => h.elim
theorem look_bin {op : BinOp} {t t2 : TypeId} {x y : Operand} {x' y' : Opd} (ho : o.op = .binOp op t x y t2) (h : FR w0 S n st β a w) (hx : okOpd x x' = true) (hy : okOpd y y' = true) (hp : (hv st (.bin op x' y')).1) :
    Looks P w0 S st β a w o (hv st (.bin op x' y')).2 := by
  revert hp
  simp only [hv]
  split
  · rename_i va vb h1 h2
    intro hp
    have e1 := vval h hx h1
    have e2 := vval h hy h2
    obtain ⟨u, hu, hr⟩ := bin_run (P := P) w op t x y va vb hp
    rw [hr]
    refine ⟨u, ?_, Rel.val u⟩
    simp only [execOp, ho, e1, e2]
    rw [Sem.run_bind, hu]
    rfl
  · exact fun h => h.elim
theorem look_un {op : UnOp} {t : TypeId} {x : Operand} {x' : Opd} (ho : o.op = .unOp op t x) (h : FR w0 S n st β a w) (hx : okOpd x x' = true) (hp : (hv st (.un op x')).1) : Looks P w0 S st β a w o (hv st (.un op x')).2 := by
  revert hp
  simp only [hv]
  split
  · rename_i va h1
    intro hp
    have e1 := vval h hx h1
    obtain ⟨u, hu, hr⟩ := un_run (P := P) w op va hp
    rw [hr]
    exact ⟨u, by simp [execOp, ho, e1, hu], Rel.val u⟩
  · exact fun h => h.elim
theorem look_conv {s t : TypeId} {k : IntKind} {x : Operand} {x' : Opd} (ho : o.op = .convert s t x) (h : FR w0 S n st β a w) (hs : (P.underlying s).isSome = true) (ht : intT P t k = true) (hx : okOpd x x' = true) (hp : (hv st (.conv k x')).1) :
    Looks P w0 S st β a w o (hv st (.conv k x')).2 := by
  revert hp
  simp only [hv]
  split
  · rename_i kk m h1
    intro _
    have e1 := vval h hx h1
    obtain ⟨d, hd⟩ := Option.isSome_iff_exists.mp hs
    exact ⟨.int k (k.wrap m), by simp [execOp, ho, e1, convert, run_underlying hd, run_underlying (int_T ht), Conv.intToInt], Rel.val _⟩
  · exact fun h => h.elim
theorem look_load {t : TypeId} {x : Operand} {x' : Opd} (ho : o.op = .load t x) (h : FR w0 S n st β a w) (ht : rowT P t = false) (hx : okOpd x x' = true) (hp : (hv st (.load x')).1) : Looks P w0 S st β a w o (hv st (.load x')).2 := by
  revert hp
  simp only [hv]
  split
  · rename_i cs q h1
    intro hp
    obtain ⟨b, off, f, e1, hb, hcell, hrel⟩ := cells_ok h (view_ok h hx) h1
    obtain ⟨d, hd, hrow⟩ := row_T ht
    refine ⟨f q, ?_, ?_⟩
    · have hr : (loadVar t ⟨b, off + q, none⟩).run P w = .ok (f q) w := by
        cases d <;> first | (simp at hrow; done) | simp [loadVar, isAgg, run_underlying hd, (hcell q hp).1]
      simp [execOp, ho, e1, Instr.loadAt, Instr.sureAddr, hr]
    · have := hrel q (cs.getD q .junk) (by rw [List.getD_eq_getElem?_getD, List.getElem?_eq_getElem hp]; rfl)
      revert this
      cases cs.getD q .junk <;> intro this <;> first | exact this | cases this
  · exact fun h => h.elim
theorem look_loads {t : TypeId} {m : Nat} {x : Operand} {x' : Opd} (ho : o.op = .load t x) (h : FR w0 S n st β a w) (hs : (P.underlying t).isSome = true) (ht : rowT P t = true) (hm : (P.info? t).map (·.size) = some m) (hx : okOpd x x' = true) (hp : (hv st (.loads m x')).1) :
    Looks P w0 S st β a w o (hv st (.loads m x')).2 := by
  revert hp
  simp only [hv]
  split
  · rename_i cs q h1
    intro hp
    obtain ⟨b, off, f, e1, hb, hcell, hrel⟩ := cells_ok h (view_ok h hx) h1
    obtain ⟨d, hd⟩ := Option.isSome_iff_exists.mp hs
    have hrow : d.isRow = true := by unfold rowT at ht; rw [hd] at ht; exact ht
    have hl : ((List.range m).map fun j => f (q + j)).length = m := by simp
    refine ⟨.agg ((List.range m).map fun j => f (q + j)).toArray, ?_, ?_⟩
    · have := run_loadAt_mid (P := P) w b (off + q) t ((List.range m).map fun j => f (q + j)) d (fun j v hj => by
        rw [List.getElem?_map, Option.map_eq_some_iff] at hj
        obtain ⟨i, hi, rfl⟩ := hj
        have hjm : j < m := by have := (List.getElem?_eq_some_iff.1 hi).1; simpa using this
        have : i = j := by rw [List.getElem?_range hjm] at hi; injection hi with hi; exact hi.symm
        subst this
        rw [Nat.add_assoc]; exact (hcell (q + i) (by omega)).1) hd hrow (by rw [hl]; exact hm)
      simp only [execOp, ho, e1, Sem.run_bind, this]
      rfl
    · refine Rel.agg _ _ (by simp; omega) (fun u hu => ?_) (fun j av hj => ?_)
      · simp only [List.mem_map, List.mem_range] at hu
        obtain ⟨i, hi, rfl⟩ := hu
        exact (hcell (q + i) (by omega)).2
      · rw [List.getElem?_take, List.getElem?_drop] at hj
        split at hj
        · rename_i hjm
          have := hrel _ _ hj
          simpa [Array.getD_eq_getD_getElem?, hjm] using this
        · cases hj
  · exact fun h => h.elim
theorem look_fld {s : TypeId} {fs : Array Field} {f off : Nat} {fd : Field} {i : TypeInfo} {x : Operand} {x' : Opd} (ho : o.op = .fieldAddr s x f) (h : FR w0 S n st β a w) (hs : P.underlying s = some (.struct fs)) (hf : fs[f]? = some fd) (hi : P.info? fd.type = some i)
    (hz : i.size ≠ 0) (hoff : fd.offset = off) (hx : okOpd x x' = true) (hp : (hv st (.fld off x')).1) : Looks P w0 S st β a w o (hv st (.fld off x')).2 := by
  have hvo := view_ok h hx
  have run : ∀ (b q : Nat), a.eval x = .pointer (some ⟨b, q, none⟩) → (execOp a.eval o).run P w = .ok (.value (.pointer (some ⟨b, q + off, none⟩))) w := fun b q e => by
    simp only [execOp, ho, e]
    simp [Instr.fieldAt, run_underlying hs, hf, Instr.sureAddr, fieldPlace, sizeOf, typeInfo, hi, hz, Addr.add_mid, hoff]
  revert hp hvo
  simp only [hv]
  split <;> intro hp hvo
  · rename_i cs q h1
    rw [h1] at hvo
    revert hvo; generalize hva : a.eval x = va; intro hvo
    cases hvo with
    | roAt _ b p _ f hb hcell hrel => exact ⟨_, run b _ hva, by rw [Nat.add_assoc]; exact Rel.roAt _ b p _ f hb hcell hrel⟩
  · rename_i d q h1
    rw [h1] at hvo
    obtain ⟨h2, g, hg, e⟩ := hvo
    exact ⟨_, run g q e, h2, g, hg, rfl⟩
  · rename_i d j q h1
    rw [h1] at hvo
    obtain ⟨e1, m, xs, g, h2, h3, h4, e⟩ := hvo
    exact ⟨_, run g _ e, e1, m, xs, g, h2, h3, h4, by rw [Nat.add_assoc]⟩
  · exact hp.elim
end
end Go.Proofs.Ytpecmhdepggnoaa
