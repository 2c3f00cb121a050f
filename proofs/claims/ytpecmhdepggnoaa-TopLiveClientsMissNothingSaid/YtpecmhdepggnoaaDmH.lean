/- The machine on data: operations that make variables and slices. -/
import Derived.Test.YtpecmhdepggnoaaDmW
import Derived.Laws.MakeOwn
namespace Go.Proofs.Ytpecmhdepggnoaa
open Go.RowKit

def sliceE (P : Program) (t e m : Nat) : Bool := match P.underlying t with
  | some (.slice e') => e' == e && (match P.info? e with
    | some i => i.size == m && (match i.zero with
      | some z => z.cells.size == m && z.cells.toList.all Value.oneCell'
      | none => false)
    | none => false)
  | _ => false
def okMake (P : Program) : Op → PO → Bool
  | .alloc t, .alloc z => zeroOf P t z
  | .box _ x, .box x' => okOpd x x'
  | .box _ x, .boxs x' => okOpd x x'
  | .buildSlice t len parts, .row e m ps => sliceE P t e m && len == ps.length && okRow 0 parts.toList ps
  | .buildSlice t len parts, .rowr e m ps => sliceE P t e m && len == ps.length && okRow 0 parts.toList ps
  | .makeSlice t l c, .mk e m bytes z l' c' => sliceE P t e m && zeroOf P e z && decide ((P.info? e).map (·.bytes) = some bytes) && okOpd l l' && okOpd c c'
  | _, _ => false

theorem slice_E {P : Program} {t e m : Nat} (h : sliceE P t e m = true) : P.underlying t = some (.slice e) ∧ ∃ i z, P.info? e = some i ∧ i.size = m ∧ i.zero = some z ∧ z.cells.size = m ∧ z.cells.toList.all Value.oneCell' = true := by
  unfold sliceE at h
  split at h
  · rename_i e' he
    rw [Bool.and_eq_true, beq_iff_eq] at h
    obtain ⟨rfl, h⟩ := h
    split at h
    · rename_i i hi
      rw [Bool.and_eq_true, beq_iff_eq] at h
      obtain ⟨h1, h2⟩ := h
      split at h2
      · rename_i z hz
        rw [Bool.and_eq_true, beq_iff_eq] at h2
        exact ⟨he, i, z, hi, h1, hz, h2.1, h2.2⟩
      · cases h2
    · cases h
  · cases h
theorem zero_of {P : Program} {t : TypeId} {z : List Value} (h : zeroOf P t z = true) : ∃ i v, P.info? t = some i ∧ i.zero = some v ∧ okZero v.cells.toList z = true := by
  unfold zeroOf at h
  split at h
  · rename_i i hi
    split at h
    · rename_i v hv; exact ⟨i, v, hi, hv, h⟩
    · cases h
  · cases h

section
variable {P : Program} {w0 : Ent} {w : World} {S : Nat → Prop} {n : Lim} {st : ASt} {β : Bt} {a : Act} {o : Oper}
/-- What an operation that makes something leaves. -/
def Makes (P : Program) (w0 : Ent) (S : Nat → Prop) (n : Lim) (st : ASt) (a : Act) (w : World) (o : Oper) (d : Nat) (av : AV) : Prop :=
  ∃ u w' β', (execOp a.eval o).run P w = .ok (.value u) w' ∧ FR w0 S n (st.put d av) β' (a.put (some d) u) w'

theorem new_box (h : FR w0 S n st β a w) {d : Nat} (hd : (st d).isHome = false) (hn : n.In d) {cs : List AV} {vs : Array Value} (hc : CellsRel w (Imm S w0 w β) cs vs) (t : TypeId) :
    ∃ β', FR w0 S n (st.put d (.box cs)) β' (a.put (some d) (.pointer (some ⟨w.heap.size, 0, none⟩))) (w.alloc (.cells vs t)) := by
  refine ⟨_, h.put_home (w' := w.alloc (.cells vs t)) (bo := some w.heap.size) ((Below.refl _ _).alloc (Nat.le_refl _) _) hd hn rfl (fun g hg => ?_) (fun I h1 _ => ?_)⟩
  · injection hg with hg; subst hg; simp
  · refine ⟨w.heap.size, t, vs, by simp, h.bases, getD_set_same' (by rw [h.size]; exact hn.1), Blk.new _ _ _, hc.1, hc.2.1, fun j av hj => ?_⟩
    exact (hc.2.2 j av hj).mono h1 (fun b o hb => World.cell?_alloc_lt _ _ _ (h.lt hb))
theorem new_own (h : FR w0 S n st β a w) {d : Nat} (hd : (st d).isHome = false) (hn : n.In d) {e m cap : Nat} {xs : List (List AV)} {vs : Array Value} (hm : ∀ x ∈ xs, x.length = m) (h0 : 0 < m) (hcap : xs.length ≤ cap) (hmax : cap ≤ maxLen) (hsz : vs.size = cap * m)
    (h1 : ∀ j, j < xs.length * m → (vs.getD j undef).oneCell' = true) (hr : ∀ j av, xs.flatten[j]? = some av → Rel w (Imm S w0 w β) av (vs.getD j undef)) :
    ∃ β', FR w0 S n (st.put d (.own e m xs)) β' (a.put (some d) (.slice (some ⟨w.heap.size, 0, none⟩) xs.length cap)) (w.alloc (.cells vs e)) := by
  have hle : xs.length * m ≤ vs.size := by rw [hsz]; exact Nat.mul_le_mul_right _ hcap
  have hg : ∀ j, j < xs.length * m → (vs.toList.take (xs.length * m)).getD j undef = vs.getD j undef := fun j hj => by
    rw [List.getD_eq_getElem?_getD, List.getElem?_take, if_pos hj, Array.getD_eq_getD_getElem?, Array.getElem?_toList]
  refine ⟨_, h.put_home (w' := w.alloc (.cells vs e)) (bo := some w.heap.size) ((Below.refl _ _).alloc (Nat.le_refl _) _) hd hn rfl (fun g hg => ?_) (fun I hI _ => ?_)⟩
  · injection hg with hg; subst hg; simp
  · refine ⟨vs.toList.take (xs.length * m), ?_, hm, h0, ?_, ?_, by omega, fun j av hj => ?_⟩
    · rw [getD_set_same' (by rw [h.size]; exact hn.1)]
      exact ⟨by simp; omega, .inr ⟨w.heap.size, cap, vs, rfl, h.bases, heap_alloc_new _ _, hcap, hmax, hsz, rfl⟩⟩
    · rw [getD_set_same' (by rw [h.size]; exact hn.1)]; simp [Value.ownBlock]
    · intro u hu
      obtain ⟨j, hj, rfl⟩ := List.getElem_of_mem hu
      have hj' : j < xs.length * m := by simp at hj; omega
      have := h1 j hj'
      rw [← hg j hj', List.getD_eq_getElem?_getD, List.getElem?_eq_getElem hj] at this
      exact this
    · have hj' : j < xs.length * m := by rw [← flatten_len xs m hm]; exact (List.getElem?_eq_some_iff.1 hj).1
      rw [hg j hj']
      exact (hr j av hj).mono hI (fun b o hb => World.cell?_alloc_lt _ _ _ (h.lt hb))

theorem vals_rel {I : Nat → Prop} {vs : Array Value} {z : List Value} (he : vs.toList = z) (h1 : z.all Value.oneCell' = true) : CellsRel w I (z.map zav) vs := by
  refine ⟨by rw [List.length_map, ← he]; simp, fun u hu => List.all_eq_true.1 h1 u (by rw [← he]; exact hu), fun j av hj => ?_⟩
  rw [List.getElem?_map, Option.map_eq_some_iff] at hj
  obtain ⟨u, hu, rfl⟩ := hj
  rw [Array.getD_eq_getD_getElem?, ← Array.getElem?_toList, he, hu]
  exact zav_rel _
theorem make_alloc {t : TypeId} {z : List Value} (ho : o.op = .alloc t) (h : FR w0 S n st β a w) (hz : zeroOf P t z = true) (hp : (hv st (.alloc z)).1) {d : Nat} (hd : (st d).isHome = false) (hn : n.In d) : Makes P w0 S n st a w o d (hv st (.alloc z)).2 := by
  obtain ⟨i, v, hi, hv0, hzz⟩ := zero_of hz
  simp only [hv] at hp ⊢
  obtain ⟨_, _, he⟩ := okZero_rel v.cells.toList z hzz hp
  obtain ⟨β', hf⟩ := new_box h hd hn (vals_rel he hp) t
  refine ⟨_, _, β', ?_, hf⟩
  simp [execOp, ho, Instr.alloc, zeroValue, typeInfo, hi, hv0, newVar, newRow]
theorem make_box {t : TypeId} {x : Operand} {x' : Opd} (ho : o.op = .box t x) (h : FR w0 S n st β a w) (hx : okOpd x x' = true) (hp : (hv st (.box x')).1) {d : Nat} (hd : (st d).isHome = false) (hn : n.In d) : Makes P w0 S n st a w o d (hv st (.box x')).2 := by
  simp only [hv] at hp ⊢
  have hvo := view_ok h hx
  have hr : Rel w (Imm S w0 w β) (view st x') (a.eval x) := by
    revert hp hvo
    cases view st x' <;> intro hp hvo <;> first | exact hvo | (simp [AV.cellOK] at hp; done)
  have h1 := one_of_rel hr hp
  have hcs : (a.eval x).cells = #[a.eval x] := by
    revert h1; cases a.eval x <;> intro h1 <;> first | rfl | (simp [Value.oneCell'] at h1; done)
  obtain ⟨β', hf⟩ := new_box h hd hn (cs := [view st x']) (vs := #[a.eval x]) ⟨rfl, by simpa using h1, fun j av hj => by
    cases j with
    | zero => simp at hj; subst hj; exact hr
    | succ j => simp at hj⟩ t
  refine ⟨_, _, β', ?_, hf⟩
  simp [execOp, ho, Instr.box, newVar, newRow, hcs]
theorem make_boxs {t : TypeId} {x : Operand} {x' : Opd} (ho : o.op = .box t x) (h : FR w0 S n st β a w) (hx : okOpd x x' = true) (hp : (hv st (.boxs x')).1) {d : Nat} (hd : (st d).isHome = false) (hn : n.In d) : Makes P w0 S n st a w o d (hv st (.boxs x')).2 := by
  have hvo := view_ok h hx
  revert hp hvo
  simp only [hv]
  split
  · rename_i cs h1
    intro _ hvo
    rw [h1] at hvo
    revert hvo; generalize hva : a.eval x = va; intro hvo
    cases hvo with
    | agg _ vs hl hone hrel =>
      obtain ⟨β', hf⟩ := new_box h hd hn (cs := cs) (vs := vs) ⟨hl, hone, hrel⟩ t
      refine ⟨_, _, β', ?_, hf⟩
      simp [execOp, ho, Instr.box, newVar, newRow, hva, Value.cells]
  · exact fun h _ => h.elim

theorem setAt_app (pre : List AV) : ∀ (ps rest : List AV), ps.length ≤ rest.length → setAt (pre ++ rest) pre.length ps = pre ++ ps ++ rest.drop ps.length
  | ps, rest, hl => by
    induction ps generalizing pre rest with
    | nil => simp [setAt]
    | cons p ps ih =>
      cases rest with
      | nil => simp at hl
      | cons r rest =>
        unfold setAt
        have e : (pre ++ r :: rest).set pre.length p = (pre ++ [p]) ++ rest := by simp
        rw [e, show pre.length + 1 = (pre ++ [p]).length by simp]
        rw [ih (pre ++ [p]) rest (by simpa using hl)]
        simp
theorem fill_row (h : FR w0 S n st β a w) {m : Nat} : ∀ (ps : List (Nat × Operand)) (qs : List Opd) (k : Nat) (pre : List AV) (vs : Array Value), okRow k ps qs = true → (∀ p ∈ qs, (elemOf m (view st p)).1) → pre.length = k * m →
    CellsRel w (Imm S w0 w β) (pre ++ List.replicate (qs.length * m) .junk) vs →
    ∃ us, Instr.fill (fun i => some (i * m, m)) vs (ps.map fun p => (p.1, a.eval p.2)) = some us ∧ CellsRel w (Imm S w0 w β) (pre ++ (qs.map fun p => (elemOf m (view st p)).2).flatten) us
  | [], [], k, pre, vs, _, _, _, hr => ⟨vs, rfl, by simpa using hr⟩
  | [], _ :: _, _, _, _, h, _, _, _ => by simp [okRow] at h
  | _ :: _, [], _, _, _, h, _, _, _ => by simp [okRow] at h
  | (i, x) :: ps, y :: qs, k, pre, vs, hok, hp, hpre, hr => by
    simp only [okRow, Bool.and_eq_true, beq_iff_eq] at hok
    obtain ⟨⟨rfl, hxy⟩, hrest⟩ := hok
    obtain ⟨hlen, hcs⟩ := elem_cells (view_ok h hxy) (hp y (by simp))
    have hsz : (a.eval x).cells.size = m := by rw [hcs.1, hlen]
    have hput := CellsRel.put (i := i * m) (elemOf m (view st y)).2 (a.eval x).cells.toList _ vs (by rw [hlen]; simp [hsz]) hcs.2.1
      (fun j av u ha hu => by
        have := hcs.2.2 j av ha
        rw [Array.getD_eq_getD_getElem?, ← Array.getElem?_toList, hu] at this
        exact this) hr 0
    have hset : setAt (pre ++ List.replicate ((y :: qs).length * m) AV.junk) (i * m + 0) (elemOf m (view st y)).2 = (pre ++ (elemOf m (view st y)).2) ++ List.replicate (qs.length * m) .junk := by
      rw [Nat.add_zero, ← hpre, setAt_app pre _ _ (by rw [hlen]; simp [Nat.add_mul])]
      congr 1
      rw [List.drop_replicate, hlen]
      congr 1
      simp [Nat.add_mul]
    rw [hset] at hput
    obtain ⟨us, hus, hres⟩ := fill_row h ps qs (i + 1) (pre ++ (elemOf m (view st y)).2) ((a.eval x).cells.zipIdx.foldl (fun cs (c, j) => cs.setIfInBounds (i * m + j) c) vs) hrest (fun p hp' => hp p (by simp [hp'])) (by simp [hpre, hlen, Nat.add_mul]) (by
      have e : (a.eval x).cells.zipIdx.foldl (fun cs (c, j) => cs.setIfInBounds (i * m + j) c) vs = (((a.eval x).cells.toList).zipIdx 0).foldl (fun cs (c, j) => cs.setIfInBounds (i * m + j) c) vs := by
        rw [← Array.foldl_toList]; simp
      rw [e]; exact hput)
    refine ⟨us, ?_, by simpa using hres⟩
    simp only [List.map_cons, Instr.fill]
    rw [if_neg (by rw [hsz, hr.1]; simp [hpre, Nat.add_mul])]
    exact hus
theorem madeCells_at {z : Array Value} {c j : Nat} (hj : j < c) : (madeCells z c).getD j undef = z[j % z.size]! := by
  simp [madeCells, Array.getD_eq_getD_getElem?, hj]
theorem zeros_one {z : Array Value} (hz : ∀ u ∈ z.toList, u.oneCell' = true) {j : Nat} (h0 : 0 < z.size) : (z[j % z.size]!).oneCell' = true := by
  have hlt : j % z.size < z.size := Nat.mod_lt _ h0
  rw [getElem!_pos z _ hlt]
  exact hz _ (by simp)
theorem make_row {t e m len : Nat} {parts : Array (Nat × Operand)} {ps : List Opd} (ho : o.op = .buildSlice t len parts) (h : FR w0 S n st β a w) (ht : sliceE P t e m = true) (hl : len = ps.length) (hq : okRow 0 parts.toList ps = true) (hp : (hv st (.row e m ps)).1)
    {d : Nat} (hd : (st d).isHome = false) (hn : n.In d) : Makes P w0 S n st a w o d (hv st (.row e m ps)).2 := by
  obtain ⟨hu, i, z, hi, hsz, hz, hzc, hz1⟩ := slice_E ht
  simp only [hv] at hp ⊢
  obtain ⟨h0, hel, hbig⟩ := hp
  have hm : ∀ x ∈ ps.map (fun p => (elemOf m (view st p)).2), x.length = m := fun x hx => by
    rw [List.mem_map] at hx
    obtain ⟨p, hp, rfl⟩ := hx
    have := hel p hp
    revert this; unfold elemOf; split
    · exact fun h => h
    · exact fun h => h.2.symm
  let zs : Array Value := if len * m = 0 then #[] else z.cells
  have hcr : CellsRel w (Imm S w0 w β) ([] ++ List.replicate (ps.length * m) .junk) ((Array.range (len * m)).map (zs[· % zs.size]!)) := by
    refine ⟨by simp [hl], fun u hu => ?_, fun j av hj => ?_⟩
    · have hu' := Array.mem_toList_iff.1 hu
      rw [Array.mem_map] at hu'
      obtain ⟨j, hj, rfl⟩ := hu'
      have hj' : j < len * m := by simpa using hj
      have hzs : zs = z.cells := if_neg (by omega)
      rw [hzs]
      exact zeros_one (fun u hu => List.all_eq_true.1 hz1 u hu) (by rw [hzc]; exact h0)
    · have : av = .junk := by
        have := List.mem_of_getElem? hj
        simp at this; exact this.2
      rw [this]; exact Rel.junk _
  obtain ⟨us, hus, hsize, hone, hrel⟩ := fill_row h (m := m) parts.toList ps 0 [] ((Array.range (len * m)).map (zs[· % zs.size]!)) hq hel (by simp) hcr
  simp only [List.nil_append] at hsize hrel
  have hfl := flatten_len _ m hm
  rw [List.length_map] at hfl
  obtain ⟨β', hf⟩ := new_own h hd hn (e := e) (m := m) (cap := ps.length) (xs := ps.map fun p => (elemOf m (view st p)).2) (vs := us) hm h0 (by simp) (by unfold maxLen; have := Nat.le_mul_of_pos_right ps.length h0; omega) (by rw [hsize, hfl])
    (fun j hj => by
      rw [List.length_map] at hj
      have hj' : j < us.size := by rw [hsize, hfl]; exact hj
      exact hone _ (Array.mem_toList_iff.2 (Array.mem_of_getElem? (getD_arr hj')))) hrel
  refine ⟨_, _, β', ?_, hf⟩
  rw [List.length_map]
  have e2 : (parts.map fun x => match x with | (i, x) => (i, a.eval x)).toList = parts.toList.map fun p => (p.1, a.eval p.2) := by rw [Array.toList_map]
  have hbig' : ¬ (16777216 < len * m) := by rw [hl]; omega
  have hrun : (Instr.buildSlice t len (parts.map fun x => match x with | (i, x) => (i, a.eval x))).run P w = .ok (.slice (some ⟨w.heap.size, 0, none⟩) len len) (w.alloc (.cells us e)) := by
    unfold Instr.buildSlice
    rw [e2]
    by_cases hz0 : len * m = 0
    · have hl0 : ps = [] := by
        rcases Nat.mul_eq_zero.1 hz0 with q | q
        · exact List.eq_nil_of_length_eq_zero (by omega)
        · omega
      have hpl : parts.toList = [] := by
        revert hq; rw [hl0]; cases parts.toList <;> intro hq
        · rfl
        · simp [okRow] at hq
      have hus0 : us = #[] := by
        have : us.size = 0 := by rw [hsize, hfl, hl0]; simp
        exact Array.eq_empty_of_size_eq_zero this
      rw [hpl, hus0]
      simp [run_underlying hu, sizeOf, typeInfo, hi, hsz, hz0, newRow, Instr.fill, Array.range_zero']
    · have hzs : zs = z.cells := if_neg hz0
      rw [hzs] at hus
      simp [run_underlying hu, sizeOf, typeInfo, zeroValue, hi, hsz, hz, hbig', hz0, newRow, hus]
  simp only [execOp, ho, Sem.run_bind]
  rw [hrun, hl]
  rfl
theorem make_mk {t e m bytes : Nat} {z : List Value} {l c : Operand} {l' c' : Opd} (ho : o.op = .makeSlice t l c) (h : FR w0 S n st β a w) (ht : sliceE P t e m = true) (hz : zeroOf P e z = true) (hby : (P.info? e).map (·.bytes) = some bytes) (hl : okOpd l l' = true) (hc : okOpd c c' = true) (hp : (hv st (.mk e m bytes z l' c')).1)
    {d : Nat} (hd : (st d).isHome = false) (hn : n.In d) : Makes P w0 S n st a w o d (hv st (.mk e m bytes z l' c')).2 := by
  obtain ⟨hu, i, v, hi, hsz, hz0, hzc, hz1⟩ := slice_E ht
  obtain ⟨i', v', hi', hv', hzz⟩ := zero_of hz
  obtain rfl : i' = i := by rw [hi] at hi'; injection hi' with q; exact q.symm
  obtain rfl : v' = v := by rw [hz0] at hv'; injection hv' with q; exact q.symm
  have hb : i'.bytes = bytes := by rw [hi] at hby; simpa using hby
  revert hp
  simp only [hv]
  split
  · rename_i l0 c0 e1 e2
    intro ⟨h0, hzl, hzo, hl0, hlc, hc63, hcb⟩
    have f1 := vval h hl e1
    have f2 := vval h hc e2
    obtain ⟨_, _, he⟩ := okZero_rel v'.cells.toList z hzz hzo
    have hvs : v'.cells.size = m := hzc
    have hmk : ∀ j, j < c0.toNat * m → (madeCells v'.cells (c0.toNat * m)).getD j undef = v'.cells[j % v'.cells.size]! := fun j hj => madeCells_at hj
    have hle : l0.toNat * m ≤ c0.toNat * m := Nat.mul_le_mul_right _ (by omega)
    obtain ⟨β', hf⟩ := new_own h hd hn (e := e) (m := m) (cap := c0.toNat) (xs := List.replicate l0.toNat (z.map zav)) (vs := madeCells v'.cells (c0.toNat * m)) (fun x hx => by rw [(List.mem_replicate.1 hx).2, List.length_map, hzl]) h0 (by simp; omega) (by unfold maxLen; omega) (size_madeCells _ _)
      (fun j hj => by
        rw [List.length_replicate] at hj
        rw [hmk j (by omega)]
        exact zeros_one (fun u hu => List.all_eq_true.1 hz1 u hu) (by omega))
      (fun j av hj => by
        have hlen : (List.replicate l0.toNat (z.map zav)).flatten.length = l0.toNat * m := by
          rw [flatten_len _ m (fun x hx => by rw [(List.mem_replicate.1 hx).2, List.length_map, hzl]), List.length_replicate]
        have hj' : j < l0.toNat * m := by rw [← hlen]; exact (List.getElem?_eq_some_iff.1 hj).1
        rw [hmk j (by omega)]
        have hq : j / m < l0.toNat := Nat.div_lt_of_lt_mul (by rw [Nat.mul_comm]; exact hj')
        have hr : j % m < m := Nat.mod_lt _ h0
        have hjj : j / m * m + j % m = j := by rw [Nat.mul_comm]; exact Nat.div_add_mod j m
        have hfa := flatten_at (List.replicate l0.toNat (z.map zav)) m (j / m) (j % m) (fun x hx => by rw [(List.mem_replicate.1 hx).2, List.length_map, hzl]) (by simpa using hq) hr
        rw [hjj, hj] at hfa
        have hgd : (List.replicate l0.toNat (z.map zav)).getD (j / m) [] = z.map zav := by
          rw [List.getD_eq_getElem?_getD, List.getElem?_replicate, if_pos hq]; rfl
        rw [hgd, List.getElem?_map] at hfa
        have hzj : z[j % m]? = some (v'.cells[j % v'.cells.size]!) := by
          rw [hvs, ← he, Array.getElem?_toList, getElem!_pos v'.cells (j % m) (by omega), Array.getElem?_eq_getElem (by omega)]
        rw [hzj] at hfa
        injection hfa with hfa
        rw [hfa]
        exact zav_rel _)
    refine ⟨_, _, β', ?_, hf⟩
    rw [List.length_replicate]
    have hr := run_make (P := P) w t e i' v' hu hi hz0 .i64 .i64 l0 c0 hl0 hlc (by rw [hb]; exact hcb) hc63
    rw [hsz] at hr
    simp only [execOp, ho, f1, f2, Sem.run_bind, hr]
    rfl
  · exact fun h => h.elim
/-- Every operation that makes something. -/
theorem make_ok {po : PO} (h : FR w0 S n st β a w) (hok : okMake P o.op po = true) (hp : (hv st po).1) {d : Nat} (hd : (st d).isHome = false) (hn : n.In d) : Makes P w0 S n st a w o d (hv st po).2 := by
  generalize ho : o.op = oo at hok
  unfold okMake at hok
  split at hok
  · exact make_alloc ho h hok hp hd hn
  · exact make_box ho h hok hp hd hn
  · exact make_boxs ho h hok hp hd hn
  · simp only [Bool.and_eq_true, beq_iff_eq] at hok; exact make_row ho h hok.1.1 hok.1.2 hok.2 hp hd hn
  · simp only [Bool.and_eq_true, beq_iff_eq] at hok
    rename_i t len parts e m ps
    have hp' : (hv st (.row e m ps)).1 := hp
    obtain ⟨u, w', β', h1, h2⟩ := make_row ho h hok.1.1 hok.1.2 hok.2 hp' hd hn
    obtain ⟨β'', h3⟩ := weak_row h hd h2
    exact ⟨u, w', β'', h1, h3⟩
  · simp only [Bool.and_eq_true, decide_eq_true_eq] at hok; exact make_mk ho h hok.1.1.1.1 hok.1.1.1.2 hok.1.1.2 hok.1.2 hok.2 hp hd hn
  · cases hok
end
end Go.Proofs.Ytpecmhdepggnoaa
