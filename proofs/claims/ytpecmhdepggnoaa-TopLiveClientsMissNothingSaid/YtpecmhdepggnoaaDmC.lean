/- The machine on data: which operation of the model is which of its own, and that those that only look do what is said of them. -/
import Derived.Test.YtpecmhdepggnoaaDmB
import Derived.Laws.StructEq
namespace Go.Proofs.Ytpecmhdepggnoaa
open Go.RowKit

def okConst : Value → AV → Bool
  | .int k n, .val (.int k' n') => decide (k = k') && decide (n = n')
  | .bool b, .val (.bool b') => b == b'
  | .string s, .val (.string s') => decide (s.data.toList = s'.data.toList)
  | .slice none 0 0, .nilsl => true
  | _, _ => false
def okOpd : Operand → Opd → Bool
  | .tmp k, .t k' => k == k'
  | .const v, .c u => okConst v (.val u)
  | .const v, .nil => okConst v .nilsl
  | .func f, .fn g => f == g
  | _, _ => false
def okOpds : List Operand → List Opd → Bool
  | [], [] => true
  | x :: r, y :: s => okOpd x y && okOpds r s
  | _, _ => false
def okOpt : Option Operand → Option Opd → Bool
  | none, none => true
  | some x, some y => okOpd x y
  | _, _ => false
def rowT (P : Program) (t : TypeId) : Bool := match P.underlying t with
  | some d => d.isRow
  | none => true
def sliceT (P : Program) (t : TypeId) (m : Nat) : Bool := match P.underlying t with
  | some (.slice e) => match P.info? e with
    | some i => i.size == m
    | none => false
  | _ => false
def intT (P : Program) (t : TypeId) (k : IntKind) : Bool := match P.underlying t with
  | some (.int k') => decide (k' = k)
  | _ => false
def stringT (P : Program) (t : TypeId) : Bool := match P.underlying t with
  | some .string => true
  | _ => false
def okParts : List (Nat × Operand) → List (Nat × Nat × Opd) → List (Nat × Nat) → Bool
  | [], [], _ => true
  | (i, x) :: r, (o, m, y) :: s, places => decide (places[i]? = some (o, m)) && okOpd x y && okParts r s places
  | _, _, _ => false
def okRow : Nat → List (Nat × Operand) → List Opd → Bool
  | _, [], [] => true
  | k, (i, x) :: r, y :: s => i == k && okOpd x y && okRow (k + 1) r s
  | _, _, _ => false
def okConsts : List Value → List Value → Bool
  | [], [] => true
  | v :: r, u :: s => okConst v (.val u) && okConsts r s
  | _, _ => false
def okZero : List Value → List Value → Bool
  | [], [] => true
  | .slice none 0 0 :: r, .slice none 0 0 :: s => okZero r s
  | .pointer none :: r, .pointer none :: s => okZero r s
  | v :: r, u :: s => okConst v (.val u) && okZero r s
  | _, _ => false
def zeroOf (P : Program) (t : TypeId) (z : List Value) : Bool := match P.info? t with
  | some i => match i.zero with
    | some v => okZero v.cells.toList z
    | none => false
  | none => false

def tagT (P : Program) (t : TypeId) (k : Nat) : Bool := match P.underlying t with
  | some (.int _) => k == 0
  | some .bool => k == 1
  | some .string => k == 2
  | _ => false
theorem tag_0 {P : Program} {t : TypeId} (h : tagT P t 0 = true) : ∃ k, P.underlying t = some (.int k) := by
  unfold tagT at h
  split at h
  · exact ⟨_, by assumption⟩
  all_goals cases h
theorem tag_1 {P : Program} {t : TypeId} (h : tagT P t 1 = true) : P.underlying t = some .bool := by
  unfold tagT at h
  split at h
  · cases h
  · assumption
  all_goals cases h
theorem tag_2 {P : Program} {t : TypeId} (h : tagT P t 2 = true) : P.underlying t = some .string := by
  unfold tagT at h
  split at h
  · cases h
  · cases h
  · assumption
  · cases h
def flatFs (P : Program) : List Field → Nat → List Nat → Bool
  | [], _, [] => true
  | f :: r, o, k :: ks => f.offset == o && f.name != "_" && tagT P f.type k && flatFs P r (o + 1) ks
  | _, _, _ => false
def flatEq (P : Program) (t : TypeId) (ks : List Nat) : Bool := match P.underlying t with
  | some (.struct fs) => flatFs P fs.toList 0 ks && !P.stoodInHeld t && !P.eqGuardType P.depth t
  | _ => false
def boolT (P : Program) (t : TypeId) : Bool := match P.underlying t with
  | some .bool => true
  | _ => false
/-- An operation that only looks (and makes no variable). -/
def okLook (P : Program) : Op → PO → Bool
  | .move x, .mv y => okOpd x y
  | .assign x, .mv y => okOpd x y
  | .pick c a b, .pick c' a' b' => okOpd c c' && okOpd a a' && okOpd b b'
  | .binOp op _ x y _, .bin op' x' y' => decide (op = op') && okOpd x x' && okOpd y y'
  | .binOp op t x y _, .eqs n ks x' y' => decide (op = if n = true then .neq else .eql) && flatEq P t ks && okOpd x x' && okOpd y y'
  | .binOp op t x y _, .eqb n x' y' => decide (op = if n = true then .neq else .eql) && boolT P t && okOpd x x' && okOpd y y'
  | .unOp op _ x, .un op' x' => decide (op = op') && okOpd x x'
  | .convert s t x, .conv k x' => (P.underlying s).isSome && intT P t k && okOpd x x'
  | .load t x, .load x' => !rowT P t && okOpd x x'
  | .load t x, .loads n x' => (P.underlying t).isSome && rowT P t && decide ((P.info? t).map (·.size) = some n) && okOpd x x'
  | .fieldAddr s x f, .fld off x' => (match P.underlying s with
    | some (.struct fs) => match fs[f]? with
      | some fd => match P.info? fd.type with
        | some i => decide (i.size ≠ 0) && fd.offset == off
        | none => false
      | none => false
    | _ => false) && okOpd x x'
  | .indexAddr t x i, .idx m x' i' => sliceT P t m && okOpd x x' && okOpd i i'
  | .index t x i, .idxs x' i' => stringT P t && okOpd x x' && okOpd i i'
  | .call { callee := .builtin .len, args, argTypes }, .len x' => (match args.toList, argTypes.toList with
    | [x], [t] => okOpd x x' && (match P.underlying t with
      | some (.slice e) => sliceT P t (P.cellsOf e)
      | _ => false)
    | _, _ => false)
  | .call { callee := .builtin .len, args, argTypes }, .lens x' => (match args.toList, argTypes.toList with
    | [x], [t] => okOpd x x' && stringT P t
    | _, _ => false)
  | .call { callee := .builtin .max, args, .. }, .minmax true x' y' => okOpds args.toList [x', y']
  | .call { callee := .builtin .min, args, .. }, .minmax false x' y' => okOpds args.toList [x', y']
  | .extract x i, .ext i' x' => i == i' && okOpd x x'
  | .nilCheck x, .nilck x' => okOpd x x'
  | .slice t x lo hi none, .slc lo' hi' m x' => sliceT P t m && okOpd x x' && okOpt lo lo' && okOpt hi hi'
  | .slice t x lo hi none, .slcs lo' hi' x' => stringT P t && okOpd x x' && okOpt lo lo' && okOpt hi hi'
  | .build t parts, .build z parts' => (match P.info? t, P.underlying t with
    | some i, some (.struct fs) => match i.zero, fs.toList.mapM (fun f => (P.info? f.type).map fun j => (f.offset, j.size)) with
      | some v, some places => okZero v.cells.toList z && okParts parts.toList parts' places
      | _, _ => false
    | _, _ => false)
  | .load t x, .loadsr n x' => (P.underlying t).isSome && rowT P t && decide ((P.info? t).map (·.size) = some n) && okOpd x x'
  | .makeFunc fn first captured, .mkfnr f cs => decide (fn = .func f) && first.toList.isEmpty && okOpds captured.toList (cs.map .t)
  | .makeFunc fn first captured, .mkfn f cs => decide (fn = .func f) && first.toList.isEmpty && okOpds captured.toList (cs.map .t)
  | .load t x, .loadr x' => !rowT P t && okOpd x x'
  | .indexAddr t x i, .idxr m x' i' => sliceT P t m && okOpd x x' && okOpd i i'
  | _, _ => false

/-- What a slot's view stands for. -/
def VOk (w : World) (I : Nat → Prop) (st : ASt) (β : Bt) (tm : Array Value) (v : Value) : AV → Prop
  | .own _ _ _ | .box _ | .held _ _ _ _ => False
  | .alias d => (∃ e m xs, st d = .own e m xs) ∧ v = tm.getD d undef
  | .ref d o => (∃ cs, st d = .box cs) ∧ ∃ g, β d = some g ∧ v = .pointer (some ⟨g, o, none⟩)
  | .into d i o => ∃ e m xs g, st d = .own e m xs ∧ i < xs.length ∧ β d = some g ∧ v = .pointer (some ⟨g, i * m + o, none⟩)
  | .clo f ds => (∀ d ∈ ds, ∃ cs, st d = .box cs) ∧ v = .func (.func f) #[] (ds.map fun d => tm.getD d undef).toArray
  | av => Rel w I av v

theorem okConst_rel {w : World} {I : Nat → Prop} {st : ASt} {β : Bt} {tm : Array Value} {v : Value} {av : AV} (h : okConst v av = true) : VOk w I st β tm v av := by
  unfold okConst at h
  split at h
  · simp at h; obtain ⟨rfl, rfl⟩ := h; exact .val _
  · simp at h; subst h; exact .val _
  · rename_i s s'
    simp at h
    have : s = s' := by cases s; cases s'; simp at h; rw [h]
    subst this; exact .val _
  · exact .nilsl
  · cases h

section
variable {P : Program} {w0 : Ent} {w : World} {S : Nat → Prop} {n : Lim} {st : ASt} {β : Bt} {a : Act}
theorem view_ok (h : FR w0 S n st β a w) {x : Operand} {y : Opd} (hx : okOpd x y = true) : VOk w (Imm S w0 w β) st β a.tmps (a.eval x) (view st y) := by
  unfold okOpd at hx
  split at hx
  · simp at hx; subst hx
    rename_i k
    have hs := h.slot k
    simp only [view, Act.eval]
    cases hq : st k <;> rw [hq] at hs <;> simp only [SlotRel] at hs <;> simp only [VOk]
    case own e m xs => exact ⟨⟨e, m, xs, hq⟩, trivial⟩
    case box cs =>
      obtain ⟨g, t, cur, h1, _, h3, _⟩ := hs
      exact ⟨⟨cs, hq⟩, g, h1, h3⟩
    case held => exact Rel.junk _
    all_goals exact hs
  · exact okConst_rel hx
  · exact okConst_rel hx
  · simp at hx; subst hx; exact Rel.val _
  · cases hx
/-- What is put into a slot that nobody refers to. -/
theorem put_view (h : FR w0 S n st β a w) {d : Nat} {av : AV} {u : Value} (hd : (st d).isHome = false) (hn : n.In d) (hv : VOk w (Imm S w0 w β) st β a.tmps u av) : FR w0 S n (st.put d av) β (a.put (some d) u) w := by
  have hs : (a.tmps.setIfInBounds d u).getD d undef = u := getD_set_same' (by rw [h.size]; exact hn.1)
  have nd : ∀ {t : Nat}, (st t).isHome = true → t ≠ d := fun ht e => by rw [e, hd] at ht; cases ht
  refine h.put hd hn ?_
  cases av <;> simp only [VOk] at hv <;> simp only [SlotRel, hs]
  case alias t =>
    obtain ⟨⟨e, m, xs, h1⟩, h2⟩ := hv
    have ht : t ≠ d := nd (by rw [h1]; rfl)
    exact ⟨⟨e, m, xs, by rw [put_ne ht]; exact h1⟩, by rw [getD_set_ne' ht]; exact h2⟩
  case ref t o =>
    obtain ⟨⟨cs, h1⟩, h2⟩ := hv
    have ht : t ≠ d := nd (by rw [h1]; rfl)
    exact ⟨⟨cs, by rw [put_ne ht]; exact h1⟩, h2⟩
  case into t i o =>
    obtain ⟨e, m, xs, g, h1, h2⟩ := hv
    have ht : t ≠ d := nd (by rw [h1]; rfl)
    exact ⟨e, m, xs, g, by rw [put_ne ht]; exact h1, h2⟩
  case clo f ds =>
    obtain ⟨h1, h2⟩ := hv
    have ht : ∀ t ∈ ds, t ≠ d := fun t ht => by obtain ⟨cs, hc⟩ := h1 t ht; exact nd (by rw [hc]; rfl)
    refine ⟨fun t hm => by obtain ⟨cs, hc⟩ := h1 t hm; exact ⟨cs, by rw [put_ne (ht t hm)]; exact hc⟩, h2.trans ?_⟩
    congr 2
    exact List.map_congr_left fun t hm => (getD_set_ne' (ht t hm)).symm
  all_goals exact hv
end

/-! ### Rows and cells, as memory has them -/
theorem flatten_at {α : Type} : ∀ (xs : List (List α)) (m k j : Nat), (∀ x ∈ xs, x.length = m) → k < xs.length → j < m → xs.flatten[k * m + j]? = (xs.getD k [])[j]?
  | [], _, _, _, _, h, _ => by simp at h
  | x :: r, m, 0, j, hm, _, hj => by
    have := hm x (by simp)
    rw [List.flatten_cons, List.getElem?_append_left (by omega)]; simp
  | x :: r, m, k + 1, j, hm, hk, hj => by
    have hx := hm x (by simp)
    rw [List.flatten_cons, List.getElem?_append_right (by rw [hx, Nat.add_mul]; omega), hx, show (k + 1) * m + j - m = k * m + j by rw [Nat.add_mul]; omega]
    rw [flatten_at r m k j (fun y hy => hm y (by simp [hy])) (by simpa using hk) hj]
    simp
theorem flatten_len {α : Type} : ∀ (xs : List (List α)) (m : Nat), (∀ x ∈ xs, x.length = m) → xs.flatten.length = xs.length * m
  | [], _, _ => by simp
  | x :: r, m, hm => by
    rw [List.flatten_cons, List.length_append, hm x (by simp), flatten_len r m (fun y hy => hm y (by simp [hy])), List.length_cons, Nat.add_mul]; omega
theorem getD_mem {α : Type} {xs : List (List α)} {m k : Nat} (hm : ∀ x ∈ xs, x.length = m) (hk : k < xs.length) : (xs.getD k []).length = m := by
  rw [List.getD_eq_getElem?_getD, List.getElem?_eq_getElem hk]; exact hm _ (List.getElem_mem hk)

/-- A row in memory. -/
def RowAt (w : World) (I : Nat → Prop) (xs : List (List AV)) (v : Value) : Prop :=
  ∃ (A : Option Addr) (c : Nat), v = .slice A xs.length c ∧ xs.length ≤ c ∧ xs.length ≤ maxLen ∧ (xs ≠ [] → ∃ (b off m : Nat) (f : Nat → Value), A = some ⟨b, off, none⟩ ∧ b < w.heap.size ∧ (∀ x ∈ xs, x.length = m) ∧
    (∀ j, j < xs.length * m → w.cell? ⟨b, off + j, none⟩ = some (f j) ∧ (f j).oneCell' = true) ∧ ∀ j av, xs.flatten[j]? = some av → Rel w I av (f j))
/-- Cells in memory, and a place among them. -/
def CellsAt (w : World) (I : Nat → Prop) (cs : List AV) (o : Nat) (v : Value) : Prop :=
  ∃ (b off : Nat) (f : Nat → Value), v = .pointer (some ⟨b, off + o, none⟩) ∧ b < w.heap.size ∧ (∀ j, j < cs.length → w.cell? ⟨b, off + j, none⟩ = some (f j) ∧ (f j).oneCell' = true) ∧ ∀ j av, cs[j]? = some av → Rel w I av (f j)

theorem own_row {w : World} {base : Nat} {I : Nat → Prop} {e m : Nat} {xs : List (List AV)} {v : Value} {bo : Option Nat} (h : OwnAt w base I e m xs v bo) : RowAt w I xs v := by
  obtain ⟨cells, hown, hm, h0, hbo, h1, hx, hr⟩ := h
  have hl := hown.1
  obtain ⟨A, c, rfl⟩ := own_val hown
  have hc : xs.length ≤ c := by
    rcases hown.2 with ⟨hv, h0⟩ | ⟨g, cap, cur, hv, _, _, hle, _⟩
    · rw [h0]; omega
    · injection hv with _ _ hcc; rw [hcc]; exact hle
  refine ⟨A, c, rfl, hc, hx, fun hne => ?_⟩
  have hne' : cells ≠ [] := fun e => by
    rw [e] at hl
    have : 0 < xs.length := List.length_pos_iff.2 hne
    have := Nat.mul_pos this h0
    simp at hl; omega
  obtain ⟨b, off, e1, hb, hc⟩ := own_rd hown hne'
  refine ⟨b, off, m, fun j => cells.getD j undef, e1, hb, hm, fun j hj => ?_, hr⟩
  have hj' : j < cells.length := by omega
  have hg : cells[j]? = some (cells.getD j undef) := by rw [List.getD_eq_getElem?_getD, List.getElem?_eq_getElem hj']; rfl
  exact ⟨hc j _ hg, h1 _ (List.mem_of_getElem? hg)⟩

section
variable {P : Program} {w0 : Ent} {w : World} {S : Nat → Prop} {n : Lim} {st : ASt} {β : Bt} {a : Act}
theorem row_ok (h : FR w0 S n st β a w) {av : AV} {v : Value} {xs : List (List AV)} (hv : VOk w (Imm S w0 w β) st β a.tmps v av) (hr : rowOf st av = some xs) : RowAt w (Imm S w0 w β) xs v := by
  cases av <;> simp only [rowOf] at hr
  case nilsl =>
    injection hr with hr; subst hr
    cases hv
    exact ⟨none, 0, rfl, Nat.le_refl _, Nat.zero_le _, fun hne => absurd rfl hne⟩
  case ro ys =>
    injection hr with hr; subst hr
    cases hv with
    | ro0 A c => exact ⟨A, c, rfl, Nat.zero_le _, Nat.zero_le _, fun hne => absurd rfl hne⟩
    | ro _ b off c m f hb hm hc hx hcell hrel => exact ⟨_, c, rfl, hc, hx, fun _ => ⟨b, off, m, f, rfl, h.lt hb, hm, hcell, hrel⟩⟩
  case alias d =>
    obtain ⟨⟨e, m, ys, h1⟩, rfl⟩ := hv
    rw [h1] at hr
    injection hr with hr; subst hr
    have hs := h.slot d
    rw [h1] at hs
    exact own_row hs
  all_goals cases hr
theorem cells_ok (h : FR w0 S n st β a w) {av : AV} {v : Value} {cs : List AV} {o : Nat} (hv : VOk w (Imm S w0 w β) st β a.tmps v av) (hr : cellsOf st av = some (cs, o)) : CellsAt w (Imm S w0 w β) cs o v := by
  cases av <;> simp only [cellsOf] at hr
  case roAt cs' o' =>
    injection hr with hr; injection hr with h1 h2; subst h1; subst h2
    cases hv with
    | roAt _ b off _ f hb hcell hrel => exact ⟨b, off, f, rfl, h.lt hb, hcell, hrel⟩
  case ref d o' =>
    obtain ⟨⟨cs', h1⟩, g, hg, rfl⟩ := hv
    rw [h1] at hr
    injection hr with hr; injection hr with e1 e2; subst e1; subst e2
    have hs := h.slot d
    rw [h1] at hs
    obtain ⟨g', t, cur, q1, q2, q3, q4, q5, q6, q7⟩ := hs
    obtain rfl : g = g' := by rw [hg] at q1; injection q1
    refine ⟨g, 0, fun j => cur.getD j undef, by simp, q4.lt, fun j hj => ?_, q7⟩
    have hj' : j < cur.size := by omega
    have hgd : cur[j]? = some (cur.getD j undef) := by rw [Array.getD_eq_getD_getElem?, Array.getElem?_eq_getElem hj']; rfl
    exact ⟨by simpa using q4.cell j _ hgd, q6 _ (by
      have := Array.mem_of_getElem? hgd
      exact Array.mem_toList_iff.2 this)⟩
  case into d i o' =>
    obtain ⟨e, m, xs, g, h1, hi, hg, rfl⟩ := hv
    rw [h1] at hr
    injection hr with hr; injection hr with e1 e2; subst e1; subst e2
    have hs := h.slot d
    rw [h1] at hs
    have hgt := hs
    obtain ⟨A, c, hA, hc, hx, hcells⟩ := own_row hs
    obtain ⟨cells, hown, hm, h0, hbo, _⟩ := hgt
    have hne : xs ≠ [] := fun e => by rw [e] at hi; simp at hi
    obtain ⟨b, off, m', f, rfl, hb, hm', hcell, hrel⟩ := hcells hne
    have hmm : m' = m := by
      obtain ⟨x, hx⟩ := List.exists_mem_of_ne_nil xs hne
      rw [← hm x hx, hm' x hx]
    subst hmm
    rw [hA] at hbo
    have hbg : b = g := by
      have : some b = some g := by rw [← hg, ← hbo]; rfl
      injection this
    subst hbg
    have hlen := getD_mem hm hi
    have hoff : off = 0 := by
      rcases hown.2 with ⟨hv, _⟩ | ⟨g', cap, cur, hv, _⟩
      · rw [hA] at hv; cases hv
      · rw [hA] at hv; injection hv with hv; injection hv with hv; injection hv
    subst hoff
    refine ⟨b, i * m', fun j => f (i * m' + j), rfl, hb, fun j hj => ?_, fun j av hj => ?_⟩
    · rw [hlen] at hj
      have hlt : i * m' + j < xs.length * m' := by
        have : (i + 1) * m' ≤ xs.length * m' := Nat.mul_le_mul_right _ hi
        rw [Nat.add_mul] at this; omega
      simpa using hcell _ hlt
    · have hjm : j < m' := by
        have := (List.getElem?_eq_some_iff.1 hj).1
        omega
      exact hrel _ av (by rw [flatten_at xs m' i j hm hi hjm]; exact hj)
  all_goals cases hr
end
end Go.Proofs.Ytpecmhdepggnoaa
