/- The machine on data: what is assigned, appended, stored. -/
import Derived.Test.YtpecmhdepggnoaaDmI
namespace Go.Proofs.Ytpecmhdepggnoaa
open Go.RowKit

/-- Slot d, before something else is put there. -/
def ASt.rid (st : ASt) (d : Nat) : ASt := if (st d).isHome = true then st.free d else st
def badE (st : ASt) : Prop × ASt := (False, st)
/-- What an operation does to the slots: under which condition, and what they hold behind it. -/
def ev (st : ASt) (d : Nat) : PO → Prop × ASt
  | .asg x => match x with
    | .t s => match st s with
      | .own e m xs => (s ≠ d, ((st.rid d).free s).put d (.own e m xs))
      | _ => ((view st x).kill d = view st x, (st.rid d).put d (view st x))
    | x => ((view st x).kill d = view st x, (st.rid d).put d (view st x))
  | .app e m bytes x y => match rowOf st (view st y) with
    | some ys => match view st x with
      | .alias h => match st h with
        | .own e' m' xs => ((e' = e ∧ m' = m ∧ (st d).isHome = false ∧ (∀ y ∈ ys, y.length = m)) ∧ xs.length + ys.length ≤ 9223372036854775807 ∧ (xs.length + ys.length) * bytes ≤ 140737488355328, (st.free h).put d (.own e m (xs ++ ys)))
        | _ => badE st
      | .nilsl => ((0 < m ∧ (st d).isHome = false ∧ (∀ y ∈ ys, y.length = m)) ∧ ys.length ≤ 9223372036854775807 ∧ ys.length * bytes ≤ 140737488355328, st.put d (.own e m ys))
      | _ => badE st
    | none => badE st
  | .store p x => match view st p with
    | .ref h q => match st h with
      | .box cs => (q < cs.length ∧ (view st x).cellOK = true, st.put h (.box (cs.set q (view st x))))
      | _ => badE st
    | .into h i q => match st h with
      | .own e m xs => (q < m ∧ (view st x).cellOK = true, st.put h (.own e m (xs.set i ((xs.getD i []).set q (view st x)))))
      | _ => badE st
    | _ => badE st
  | .stores k p x => match view st p, view st x with
    | .ref h q, .agg vs => match st h with
      | .box cs => (vs.length = k ∧ q + vs.length ≤ cs.length, st.put h (.box (setAt cs q vs)))
      | _ => badE st
    | .into h i q, .agg vs => match st h with
      | .own e m xs => (vs.length = k ∧ q + vs.length ≤ m, st.put h (.own e m (xs.set i (setAt (xs.getD i []) q vs))))
      | _ => badE st
    | _, _ => badE st
  | _ => badE st

def okEff (P : Program) : Op → PO → Bool
  | .assign x, .asg y => okOpd x y
  | .call { callee := .builtin .append, args, argTypes }, .app e m bytes x y => okOpds args.toList [x, y] && (match argTypes.toList with
    | [t, t'] => t == t' && sliceE P t e m && decide ((P.info? e).map (·.bytes) = some bytes)
    | _ => false)
  | .store t p x, .store p' x' => !rowT P t && decide ((P.info? t).map (·.size) = some 1) && okOpd p p' && okOpd x x'
  | .store t p x, .stores k p' x' => decide ((P.info? t).map (·.size) = some k) && okOpd p p' && okOpd x x'
  | _, _ => false

section
variable {P : Program} {w0 : Ent} {w : World} {S : Nat → Prop} {n : Lim} {st : ASt} {β : Bt} {a : Act} {o : Oper}
theorem rid_ok (h : FR w0 S n st β a w) (d : Nat) : ∃ β', FR w0 S n (st.rid d) β' a w ∧ ((st.rid d) d).isHome = false ∧ (∀ k, k ≠ d → β' k = β k) ∧ ∀ b, Imm S w0 w β b → Imm S w0 w β' b := by
  unfold ASt.rid
  split
  · refine ⟨_, h.free d, by rw [free_same]; rfl, fun k hk => by simp [hk], fun b hb => ?_⟩
    rcases hb with hb | hb
    · exact .inl hb
    · refine .inr ⟨hb.1, hb.2.1, fun k => ?_⟩
      by_cases hk : k = d
      · simp [hk]
      · simp only [hk, if_false]; exact hb.2.2 k
  · rename_i hd
    exact ⟨β, h, by simpa using hd, fun _ _ => rfl, fun _ hb => hb⟩
theorem rid_home {d t : Nat} (ht : t ≠ d) (hh : (st t).isHome = true) : (st.rid d) t = st t := by
  unfold ASt.rid
  split
  · exact free_home ht hh
  · rfl
/-- What was a view of the slots still is, where d has let go, unless it leads to d. -/
theorem view_rid {β' : Bt} {I' : Nat → Prop} {d : Nat} {tm : Array Value} {av : AV} {v : Value} {I : Nat → Prop} (hv : VOk w I st β tm v av) (hk : av.kill d = av) (hβ : ∀ k, k ≠ d → β' k = β k) (hI : ∀ b, I b → I' b) : VOk w I' (st.rid d) β' tm v av := by
  cases av <;> simp only [VOk] at hv ⊢
  case alias t =>
    have ht : t ≠ d := fun e => by simp [AV.kill, e] at hk
    obtain ⟨⟨e, m, xs, h1⟩, h2⟩ := hv
    exact ⟨⟨e, m, xs, by rw [rid_home ht (by rw [h1]; rfl)]; exact h1⟩, h2⟩
  case ref t q =>
    have ht : t ≠ d := fun e => by simp [AV.kill, e] at hk
    obtain ⟨⟨cs, h1⟩, g, hg, h2⟩ := hv
    exact ⟨⟨cs, by rw [rid_home ht (by rw [h1]; rfl)]; exact h1⟩, g, by rw [hβ t ht]; exact hg, h2⟩
  case into t i q =>
    have ht : t ≠ d := fun e => by simp [AV.kill, e] at hk
    obtain ⟨e, m, xs, g, h1, h2, hg, h3⟩ := hv
    exact ⟨e, m, xs, g, by rw [rid_home ht (by rw [h1]; rfl)]; exact h1, h2, by rw [hβ t ht]; exact hg, h3⟩
  case clo f ds =>
    have hd : d ∉ ds := fun hm => by simp [AV.kill, hm] at hk
    obtain ⟨h1, h2⟩ := hv
    refine ⟨fun t hm => ?_, h2⟩
    obtain ⟨cs, hc⟩ := h1 t hm
    exact ⟨cs, by rw [rid_home (fun e : t = d => hd (e ▸ hm)) (by rw [hc]; rfl)]; exact hc⟩
  all_goals first | exact hv.mono hI (fun _ _ _ => rfl) | exact hv

/-- What an operation with an effect leaves. -/
def Does (P : Program) (w0 : Ent) (S : Nat → Prop) (n : Lim) (a : Act) (w : World) (o : Oper) (st' : ASt) : Prop :=
  (∃ u w' β', (execOp a.eval o).run P w = .ok (.value u) w' ∧ FR w0 S n st' β' (a.put o.dst u) w') ∨ ∃ w' β', (execOp a.eval o).run P w = .ok .skip w' ∧ FR w0 S n st' β' a w' ∧ o.dst = none
theorem does_asg {x : Operand} {x' : Opd} {d : Nat} (ho : o.op = .assign x) (hdst : o.dst = some d) (hn : n.In d) (h : FR w0 S n st β a w) (hx : okOpd x x' = true) (hp : (ev st d (.asg x')).1) : Does P w0 S n a w o (ev st d (.asg x')).2 := by
  have hrun : (execOp a.eval o).run P w = .ok (.value (a.eval x)) w := by simp [execOp, ho]
  have gen : (view st x').kill d = view st x' → ∃ β', FR w0 S n ((st.rid d).put d (view st x')) β' (a.put (some d) (a.eval x)) w := fun hk => by
    obtain ⟨β', h1, h2, h3, h4⟩ := rid_ok h d
    exact ⟨β', put_view h1 h2 hn (view_rid (view_ok h hx) hk h3 h4)⟩
  have fin : ∀ {st' : ASt}, (∃ β', FR w0 S n st' β' (a.put (some d) (a.eval x)) w) → Does P w0 S n a w o st' := fun ⟨β', hf⟩ => .inl ⟨_, w, β', hrun, by rw [hdst]; exact hf⟩
  revert hp
  simp only [ev]
  split
  · rename_i s
    split
    · rename_i e m xs hs
      intro hsd
      obtain ⟨β', h1, h2, h3, h4⟩ := rid_ok h d
      have hs' : (st.rid d) s = .own e m xs := by rw [rid_home hsd (by rw [hs]; rfl)]; exact hs
      have hx' : x = .tmp s := by unfold okOpd at hx; split at hx <;> simp_all
      have hsl := h1.slot s
      rw [hs'] at hsl
      have hown : OwnAt w w0.base (Imm S w0 w β') e m xs (a.tmps.getD s undef) (β' s) := hsl
      refine fin ⟨_, h1.shift (w' := w) s (d := d) (av := .own e m xs) (u := a.eval x) (bo := β' s) hsd h2 hn rfl rfl rfl rfl (Nat.le_refl _) (fun _ _ _ => rfl) (fun g hg => .inl hg) (fun I hI _ => ?_)⟩
      simp only [SlotRel, if_pos]
      rw [getD_set_same' (by rw [h1.size]; exact hn.1), hx']
      exact OwnAt.mono (w := w) hI (fun _ _ _ => rfl) (fun _ _ => rfl) hown
    · exact fun hk => fin (gen hk)
  · exact fun hk => fin (gen hk)

/-- append to a row of the frame's own: where the new row lies. -/
theorem append_block {w : World} {base : Nat} {t ty e : TypeId} {i : TypeInfo} {z : Value} {size bytes : Nat} (ht : P.underlying t = some (.slice e)) (hi : P.info? e = some i) (hz : i.zero = some z) (hsize : i.size = size) (hby : i.bytes = bytes) (hzs : z.cells.size = size) (hsz : 0 < size)
    {v : Value} {k : Nat} {xs : List Value} (hown : w.ownsRow base e size v k xs) {x : Value} {m : Nat} {news : List Value} (hx : (∃ q c, x = .slice (some q) m c ∧ ∀ j u, news[j]? = some u → w.cell? (q.add j) = some u) ∨ (m = 0 ∧ ∃ A c, x = .slice A 0 c)) (hl : news.length = m * size) (h1 : ∀ u ∈ news, u.oneCell' = true)
    (h63 : k + m ≤ maxLen) (hbytes : (k + m) * bytes ≤ 140737488355328) (hbase : base ≤ w.heap.size) :
    ∃ v' w', (Builtin.append_ #[t, t] ty #[v, x]).run P w = .ok v' w' ∧ w'.ownsRow base e size v' (k + m) (xs ++ news) ∧ w.grownBy w' v.ownBlock ∧ (∀ g, v'.ownBlock = some g → v.ownBlock = some g ∨ w.heap.size ≤ g) := by
  have hsmall : k + m ≤ 9223372036854775807 := by simp only [maxLen] at h63; omega
  rcases hx with ⟨q, c, rfl, hcells⟩ | ⟨rfl, A, c, rfl⟩
  · obtain ⟨v', w', hr, ho, hg, _⟩ := run_append_own (P := P) w base t ty e i z size bytes ht hi hz hsize hby hzs hsz v k xs hown q m c news hl hcells h1 h63 hbytes hbase
    refine ⟨v', w', hr, ho, hg, fun g hgb => ?_⟩
    subst hsize; subst hby
    rcases hown.2 with ⟨rfl, rfl⟩ | ⟨g0, cap, cur, rfl, hbg, hgg, hnc, hcm, hcs, htake⟩
    · by_cases hm : m = 0
      · subst hm
        have hn : news = [] := List.eq_nil_of_length_eq_zero (by simpa using hl)
        subst hn
        have : (Builtin.append_ #[t, t] ty #[.slice none 0 0, .slice (some q) 0 c]).run P w = .ok (.slice none 0 0) w := by
          simp [Builtin.append_, run_underlying ht, sizeOf, typeInfo, hi, Builtin.lenOf, Builtin.firstCells, loadCells, loadCellsFrom]
        rw [this] at hr
        injection hr with hr _
        subst hr
        cases hgb
      · have hr2 := run_append_nil (P := P) w t ty e i z ht hi hz q m c news hl hcells (by omega) (by omega) (by simp only [Nat.zero_add] at hbytes; omega)
        rw [hr2] at hr
        injection hr with hr _
        subst hr
        injection hgb with hgb
        exact .inr (by simp at hgb; omega)
    · by_cases hroom : k + m ≤ cap
      · have hfit : k * i.size + news.length ≤ cur.size := by rw [hl, hcs, ← Nat.add_mul]; exact Nat.mul_le_mul_right _ hroom
        have hr2 := run_append_room (P := P) w t ty e i ht hi g0 k cap cur hgg q m c news hl hcells h1 hroom hfit
        rw [hr2] at hr
        injection hr with hr _
        subst hr
        exact .inl hgb
      · have holds : ∀ j u, xs[j]? = some u → w.cell? ((⟨g0, 0, none⟩ : Addr).add j) = some u := hown.cells (g := g0) rfl
        have hr2 := run_append_grow (P := P) w t ty e i z ht hi hz ⟨g0, 0, none⟩ k cap xs hown.1 holds q m c news hl hcells (by omega) (by omega) (growslice_fits (by omega) hbytes)
        rw [hr2] at hr
        injection hr with hr _
        subst hr
        injection hgb with hgb
        exact .inr (by simp at hgb; omega)
  · have hn : news = [] := List.eq_nil_of_length_eq_zero (by simpa using hl)
    subst hn
    obtain ⟨B, cc, rfl⟩ := own_val hown
    have hkc : k ≤ cc := by
      rcases hown.2 with ⟨hv, h0⟩ | ⟨g, cap, cur, hv, _, _, hle, _⟩
      · rw [h0]; omega
      · injection hv with _ _ hcc; rw [hcc]; exact hle
    refine ⟨.slice B k cc, w, ?_, by simpa using hown, ⟨rfl, rfl, rfl, Nat.le_refl _, fun _ _ _ => rfl⟩, fun g hg => .inl hg⟩
    cases A <;> cases B <;> simp [Builtin.append_, run_underlying ht, sizeOf, typeInfo, hi, Builtin.lenOf, Builtin.firstCells, loadCells, loadCellsFrom, hkc, storeCells]
theorem grown_blk {w w' : World} {row : Option Nat} (h : w.grownBy w' row) {b : Nat} (hb : b < w.heap.size) (hne : row ≠ some b) : w'.heap[b]? = w.heap[b]? := h.block b hb (fun e => hne e.symm)
/-- The cells of a row, as append takes them. -/
theorem row_src {I : Nat → Prop} {ys : List (List AV)} {v : Value} {m : Nat} (h : RowAt w I ys v) (hm : ∀ y ∈ ys, y.length = m) :
    ∃ news : List Value, news.length = ys.length * m ∧ (∀ u ∈ news, u.oneCell' = true) ∧ (∀ j av, ys.flatten[j]? = some av → Rel w I av (news.getD j undef)) ∧ ((∃ q c, v = .slice (some q) ys.length c ∧ ∀ j u, news[j]? = some u → w.cell? (q.add j) = some u) ∨ (ys.length = 0 ∧ ∃ A c, v = .slice A 0 c)) := by
  obtain ⟨A, c, rfl, hc, hmax, hne⟩ := h
  by_cases hy : ys = []
  · subst hy
    exact ⟨[], by simp, by simp, by simp, .inr ⟨rfl, A, c, rfl⟩⟩
  · obtain ⟨b, off, m', f, rfl, hb, hm', hcell, hrel⟩ := hne hy
    have hmm : m' = m := by
      obtain ⟨x, hx⟩ := List.exists_mem_of_ne_nil ys hy
      rw [← hm x hx, hm' x hx]
    subst hmm
    have hgd : ∀ j, j < ys.length * m' → ((List.range (ys.length * m')).map f)[j]? = some (f j) := fun j hj => by
      rw [List.getElem?_map, List.getElem?_range hj]; rfl
    refine ⟨(List.range (ys.length * m')).map f, by simp, fun u hu => ?_, fun j av hj => ?_, .inl ⟨_, c, rfl, fun j u hu => ?_⟩⟩
    · rw [List.mem_map] at hu
      obtain ⟨j, hj, rfl⟩ := hu
      exact (hcell j (by simpa using hj)).2
    · have hj' : j < ys.length * m' := by rw [← flatten_len ys m' hm]; exact (List.getElem?_eq_some_iff.1 hj).1
      rw [List.getD_eq_getElem?_getD, hgd j hj']
      exact hrel j av hj
    · have hj' : j < ys.length * m' := by have := (List.getElem?_eq_some_iff.1 hu).1; simpa using this
      rw [hgd j hj'] at hu
      injection hu with hu
      rw [← hu, Addr.add_mid]
      exact (hcell j hj').1
theorem getD_app {xs ys : List Value} {j : Nat} : (xs ++ ys).getD j undef = if j < xs.length then xs.getD j undef else ys.getD (j - xs.length) undef := by
  simp only [List.getD_eq_getElem?_getD, List.getElem?_append]
  split <;> rfl
/-- append to a slice that is known by a name: what it owns grows. -/
theorem does_apph {args : Array Operand} {ats : Array TypeId} {e m bytes k : Nat} {t : TypeId} {x' y' : Opd} {d : Nat} {xs ys : List (List AV)} {r : Value} (ho : o.op = .call { callee := .builtin .append, args, argTypes := ats }) (hn : n.In d) (h : FR w0 S n st β a w) (hx : okOpds args.toList [x', y'] = true) (hat : ats.toList = [t, t])
    (hs : sliceE P t e m = true) (hby : (P.info? e).map (·.bytes) = some bytes) (hv : view st x' = .val r) (hst : st k = .held e m xs r) (hys : rowOf st (view st y') = some ys) (hkd : k ≠ d) (hd : (st d).isHome = false) (hm : ∀ y ∈ ys, y.length = m)
    (h63 : xs.length + ys.length ≤ 9223372036854775807) (hbytes : (xs.length + ys.length) * bytes ≤ 140737488355328) :
    ∃ u w' β' r', (execOp a.eval o).run P w = .ok (.value u) w' ∧ FR w0 S n (((st.free k).put d (.own e m (xs ++ ys))).hold d k e m (xs ++ ys) r') β' (a.put (some d) u) w' := by
  obtain ⟨x, y, rfl, hxx, hyy⟩ := args2 hx
  have hats : ats = #[t, t] := by cases ats; simp at hat; rw [hat]
  subst hats
  obtain ⟨hu, i, z, hi, hsz, hz, hzc, hz1⟩ := slice_E hs
  have hb : i.bytes = bytes := by rw [hi] at hby; simpa using hby
  have hrun : ∀ {v w'}, (Builtin.append_ #[t, t] o.type #[a.eval x, a.eval y]).run P w = .ok v w' → (execOp a.eval o).run P w = .ok (.value v) w' := fun {v w'} hr => by
    simp [execOp, ho, resolve, invoke, builtin, hr]
  have hrow := row_ok h (view_ok h hyy) hys
  have hvx := vval h hxx hv
  have hsl := h.slot k
  rw [hst] at hsl
  have hown0 : OwnAt w w0.base (Imm S w0 w β) e m xs r (β k) := hsl
  obtain ⟨cells, hown, hxm, h0, hbo, hone, hmax, hrel⟩ := hown0
  obtain ⟨news, hnl, hn1, hnr, hsrc⟩ := row_src hrow hm
  obtain ⟨v', w', hr, ho', hg, hblk⟩ := append_block (P := P) (w := w) (ty := o.type) hu hi hz hsz hb hzc h0 hown hsrc hnl hn1 (by unfold maxLen; omega) hbytes h.bases
  have hf : FR w0 S n ((st.free k).put d (.own e m (xs ++ ys))) (fun j => if j = d then v'.ownBlock else if j = k then none else β j) (a.put (some d) v') w' := by
    refine h.shift (w' := w') k (d := d) (av := .own e m (xs ++ ys)) (u := v') (bo := v'.ownBlock) hkd hd hn rfl hg.os hg.tape hg.output hg.size (fun b hb hne => grown_blk hg hb (by rw [hbo]; exact hne)) (fun g hgb => ?_) (fun I hI hI2 => ?_)
    · rcases hblk g hgb with q | q
      · left; rw [← hbo]; exact q
      · exact .inr ⟨q, (ho'.lt g hgb).2⟩
    · simp only [SlotRel, if_pos]
      rw [getD_set_same' (by rw [h.size]; exact hn.1)]
      have hcl := hown.1
      refine ⟨cells ++ news, by rw [List.length_append]; exact ho', fun x hx => ?_, h0, rfl, fun u hu => ?_, by rw [List.length_append]; unfold maxLen; omega, fun j av hj => ?_⟩
      · rcases List.mem_append.1 hx with q | q
        · exact hxm x q
        · exact hm x q
      · rcases List.mem_append.1 hu with q | q
        · exact hone u q
        · exact hn1 u q
      · have keep : ∀ {av u}, Rel w (Imm S w0 w β) av u → Rel w' I av u := fun hr => hr.mono hI (fun b o hb => World.cell?_of_block (a := ⟨b, o, none⟩) (grown_blk hg (h.lt hb) (fun e => by
          rw [hbo] at e
          rcases hb with hb | hb
          · exact h.apart hb (h.home k b e).2.1
          · exact hb.2.2 k e)))
        have hxl : xs.flatten.length = cells.length := by rw [flatten_len xs m hxm, hcl]
        rw [List.flatten_append, List.getElem?_append] at hj
        rw [getD_app]
        split at hj
        · rename_i hlt
          rw [if_pos (by omega)]; exact keep (hrel j av hj)
        · rename_i hlt
          rw [if_neg (by omega), ← hxl]; exact keep (hnr _ av hj)
  obtain ⟨r', β', _, hf'⟩ := hold_ok (k := d) (g := k) (e := e) (m := m) (xs := xs ++ ys) (by rw [put_same]) (by rw [put_ne hkd, free_same]; rfl) hkd _ _ _ _ _ _ hf
  exact ⟨v', w', β', r', hrun (by rw [hvx]; exact hr), hf'⟩
theorem does_app {args : Array Operand} {ats : Array TypeId} {e m bytes : Nat} {t : TypeId} {x' y' : Opd} {d : Nat} (ho : o.op = .call { callee := .builtin .append, args, argTypes := ats }) (hdst : o.dst = some d) (hn : n.In d) (h : FR w0 S n st β a w) (hx : okOpds args.toList [x', y'] = true) (hat : ats.toList = [t, t])
    (hs : sliceE P t e m = true) (hby : (P.info? e).map (·.bytes) = some bytes) (hp : (ev st d (.app e m bytes x' y')).1) : Does P w0 S n a w o (ev st d (.app e m bytes x' y')).2 := by
  obtain ⟨x, y, rfl, hxx, hyy⟩ := args2 hx
  have hats : ats = #[t, t] := by cases ats; simp at hat; rw [hat]
  subst hats
  obtain ⟨hu, i, z, hi, hsz, hz, hzc, hz1⟩ := slice_E hs
  have hb : i.bytes = bytes := by rw [hi] at hby; simpa using hby
  have hrun : ∀ {v w'}, (Builtin.append_ #[t, t] o.type #[a.eval x, a.eval y]).run P w = .ok v w' → (execOp a.eval o).run P w = .ok (.value v) w' := fun {v w'} hr => by
    simp [execOp, ho, resolve, invoke, builtin, hr]
  revert hp
  simp only [ev]
  split
  · rename_i ys hys
    have hrow := row_ok h (view_ok h hyy) hys
    have hvx := view_ok h hxx
    split
    · rename_i k hk
      split
      · rename_i e' m' xs hst
        intro ⟨⟨rfl, rfl, hd, hm⟩, h63, hbytes⟩
        rw [hk] at hvx
        obtain ⟨_, hvx⟩ := hvx
        have hsl := h.slot k
        rw [hst] at hsl
        have hown0 : OwnAt w w0.base (Imm S w0 w β) e' m' xs (a.tmps.getD k undef) (β k) := hsl
        obtain ⟨cells, hown, hxm, h0, hbo, hone, hmax, hrel⟩ := hown0
        obtain ⟨news, hnl, hn1, hnr, hsrc⟩ := row_src hrow hm
        obtain ⟨v', w', hr, ho', hg, hblk⟩ := append_block (P := P) (w := w) (ty := o.type) hu hi hz hsz hb hzc h0 hown hsrc hnl hn1 (by unfold maxLen; omega) hbytes h.bases
        have hkd : k ≠ d := fun e => by rw [← e, hst] at hd; cases hd
        have fin : ∀ {β'}, FR w0 S n ((st.free k).put d (.own e' m' (xs ++ ys))) β' (a.put (some d) v') w' → Does P w0 S n a w o ((st.free k).put d (.own e' m' (xs ++ ys))) := fun {β'} hf => .inl ⟨v', w', β', hrun (by rw [hvx]; exact hr), by rw [hdst]; exact hf⟩
        refine fin (β' := fun j => if j = d then v'.ownBlock else if j = k then none else β j) ?_
        refine h.shift (w' := w') k (d := d) (av := .own e' m' (xs ++ ys)) (u := v') (bo := v'.ownBlock) hkd hd hn rfl hg.os hg.tape hg.output hg.size (fun b hb hne => grown_blk hg hb (by rw [hbo]; exact hne)) (fun g hgb => ?_) (fun I hI hI2 => ?_)
        · rcases hblk g hgb with q | q
          · left; rw [← hbo]; exact q
          · exact .inr ⟨q, (ho'.lt g hgb).2⟩
        · simp only [SlotRel, if_pos]
          rw [getD_set_same' (by rw [h.size]; exact hn.1)]
          have hcl := hown.1
          refine ⟨cells ++ news, by rw [List.length_append]; exact ho', fun x hx => ?_, h0, rfl, fun u hu => ?_, by rw [List.length_append]; unfold maxLen; omega, fun j av hj => ?_⟩
          · rcases List.mem_append.1 hx with q | q
            · exact hxm x q
            · exact hm x q
          · rcases List.mem_append.1 hu with q | q
            · exact hone u q
            · exact hn1 u q
          · have keep : ∀ {av u}, Rel w (Imm S w0 w β) av u → Rel w' I av u := fun hr => hr.mono hI (fun b o hb => World.cell?_of_block (a := ⟨b, o, none⟩) (grown_blk hg (h.lt hb) (fun e => by
              rw [hbo] at e
              rcases hb with hb | hb
              · exact h.apart hb (h.home k b e).2.1
              · exact hb.2.2 k e)))
            have hxl : xs.flatten.length = cells.length := by rw [flatten_len xs m' hxm, hcl]
            rw [List.flatten_append, List.getElem?_append] at hj
            rw [getD_app]
            split at hj
            · rename_i hlt
              rw [if_pos (by omega)]; exact keep (hrel j av hj)
            · rename_i hlt
              rw [if_neg (by omega), ← hxl]; exact keep (hnr _ av hj)
      · exact fun h => h.elim
    · rename_i hk
      intro ⟨⟨h0, hd, hm⟩, h63, hbytes⟩
      rw [hk] at hvx
      have hvx' : a.eval x = .slice none 0 0 := by revert hvx; generalize a.eval x = q; intro hvx; cases hvx; rfl
      obtain ⟨news, hnl, hn1, hnr, hsrc⟩ := row_src hrow hm
      obtain ⟨v', w', hr, ho', hg, hblk⟩ := append_block (P := P) (w := w) (ty := o.type) hu hi hz hsz hb hzc h0 (World.ownsRow_nil w w0.base e m) hsrc hnl hn1 (by unfold maxLen; omega) (by simpa using hbytes) h.bases
      rw [Nat.zero_add, List.nil_append] at ho'
      have fin : ∀ {β'}, FR w0 S n (st.put d (.own e m ys)) β' (a.put (some d) v') w' → Does P w0 S n a w o (st.put d (.own e m ys)) := fun {β'} hf => .inl ⟨v', w', β', hrun (by rw [hvx']; exact hr), by rw [hdst]; exact hf⟩
      have hbw : Below w.heap.size w w' := ⟨hg.os, hg.tape, hg.output, hg.size, fun b hb => grown_blk hg hb (by simp [Value.ownBlock])⟩
      refine fin (β' := fun j => if j = d then v'.ownBlock else β j) ?_
      refine h.put_home (w' := w') hbw (d := d) (av := .own e m ys) (u := v') (bo := v'.ownBlock) hd hn rfl (fun g hgb => ?_) (fun I hI hI2 => ?_)
      · rcases hblk g hgb with q | q
        · simp [Value.ownBlock] at q
        · exact ⟨q, (ho'.lt g hgb).2⟩
      · simp only [SlotRel, if_pos]
        rw [getD_set_same' (by rw [h.size]; exact hn.1)]
        exact ⟨news, ho', hm, h0, rfl, hn1, by unfold maxLen; omega, fun j av hj => (hnr j av hj).mono hI (fun b o hb => hbw.cell (p := ⟨b, o, none⟩) (h.lt hb))⟩
    · exact fun h => h.elim
  · exact fun h => h.elim

/-! ### Stores -/
def setArr (cur : Array Value) (q : Nat) : List Value → Array Value
  | [] => cur
  | v :: r => setArr (cur.setIfInBounds q v) (q + 1) r
theorem blk_cells {g : Nat} {t : TypeId} : ∀ (vs : List Value) (cur : Array Value) (q : Nat) (w : World), Blk w g t cur → Blk (w.setCells g q vs) g t (setArr cur q vs)
  | [], _, _, _, h => h
  | v :: r, _, q, _, h => blk_cells r _ (q + 1) _ (h.set_ q v)
theorem setArr_rel {w : World} {I : Nat → Prop} : ∀ (ps : List AV) (vs : List Value) (cs : List AV) (cur : Array Value) (q : Nat), ps.length = vs.length → (∀ u ∈ vs, u.oneCell' = true) → (∀ (j : Nat) av u, ps[j]? = some av → vs[j]? = some u → Rel w I av u) → CellsRel w I cs cur →
    CellsRel w I (setAt cs q ps) (setArr cur q vs)
  | [], [], _, _, _, _, _, _, h => h
  | [], _ :: _, _, _, _, h, _, _, _ => by simp at h
  | _ :: _, [], _, _, _, h, _, _, _ => by simp at h
  | p :: ps, v :: vs, cs, cur, q, hl, h1, hr, h => setArr_rel ps vs _ _ (q + 1) (by simpa using hl) (fun u hu => h1 u (by simp [hu])) (fun j av u ha hu => hr (j + 1) av u (by simpa using ha) (by simpa using hu)) (h.set (h1 v (by simp)) (hr 0 p v rfl rfl))
theorem setCells_size (g : Nat) : ∀ (vs : List Value) (q : Nat) (w : World), (w.setCells g q vs).heap.size = w.heap.size
  | [], _, _ => rfl
  | v :: r, q, w => by rw [World.setCells, setCells_size g r]; simp [World.setCell]
theorem setCells_block (g : Nat) : ∀ (vs : List Value) (q : Nat) (w : World) (b : Nat), b ≠ g → (w.setCells g q vs).heap[b]? = w.heap[b]?
  | [], _, _, _, _ => rfl
  | v :: r, q, w, b, hb => by rw [World.setCells, setCells_block g r _ _ b hb, Below.heap_setCell w ⟨g, q, none⟩ v b hb]
theorem setCells_rest (g : Nat) : ∀ (vs : List Value) (q : Nat) (w : World), (w.setCells g q vs).os = w.os ∧ (w.setCells g q vs).tape = w.tape ∧ (w.setCells g q vs).output = w.output
  | [], _, _ => ⟨rfl, rfl, rfl⟩
  | v :: r, q, w => by
    obtain ⟨h1, h2, h3⟩ := setCells_rest g r (q + 1) (w.setCell ⟨g, q, none⟩ v)
    exact ⟨h1, h2, h3⟩
theorem setArr_size : ∀ (vs : List Value) (cur : Array Value) (q : Nat), (setArr cur q vs).size = cur.size
  | [], _, _ => rfl
  | v :: r, cur, q => by unfold setArr; rw [setArr_size r]; simp
theorem setArr_far : ∀ (vs : List Value) (cur : Array Value) (q j : Nat), j < q ∨ q + vs.length ≤ j → (setArr cur q vs)[j]? = cur[j]?
  | [], _, _, _, _ => rfl
  | v :: r, cur, q, j, h => by
    unfold setArr
    simp only [List.length_cons] at h
    rw [setArr_far r _ (q + 1) j (by omega), Array.getElem?_setIfInBounds, if_neg (by omega)]

/-- Cells are written into a variable of the frame's own. -/
theorem write_box (h : FR w0 S n st β a w) {x g q : Nat} {cs ps : List AV} {vs : List Value} (hx : st x = .box cs) (hg : β x = some g) (hl : ps.length = vs.length) (h1 : ∀ u ∈ vs, u.oneCell' = true) (hr : ∀ (j : Nat) av u, ps[j]? = some av → vs[j]? = some u → Rel w (Imm S w0 w β) av u) :
    FR w0 S n (st.put x (.box (setAt cs q ps))) β a (w.setCells g q vs) ∧ ∃ t cur, Blk w g t cur ∧ cur.size = cs.length := by
  have hs := h.slot x
  rw [hx] at hs
  obtain ⟨g', t, cur, q1, q2, q3, q4, q5, q6, q7⟩ := hs
  obtain rfl : g = g' := by rw [hg] at q1; injection q1
  obtain ⟨r1, r2, r3⟩ := setCells_rest g vs q w
  refine ⟨h.write (w' := w.setCells g q vs) hg r1 r2 r3 (setCells_size g vs q w) (fun b hb => setCells_block g vs q w b hb) (.inl ⟨cs, _, hx, rfl⟩) (fun I hI => ?_), t, cur, q4, q5⟩
  have hc := setArr_rel (q := q) ps vs cs cur hl h1 hr ⟨q5, q6, q7⟩
  refine ⟨g, t, setArr cur q vs, hg, q2, q3, blk_cells vs cur q w q4, hc.1, hc.2.1, fun j av hj => ?_⟩
  exact (hc.2.2 j av hj).mono hI (fun b o hb => World.cell?_of_block (a := ⟨b, o, none⟩) (setCells_block g vs q w b (fun e => by
    subst e
    rcases hb with hb | hb
    · exact h.apart hb (h.home x b hg).2.1
    · exact hb.2.2 x hg)))
theorem flatten_set : ∀ (xs : List (List AV)) (m i q : Nat) (ps : List AV), (∀ x ∈ xs, x.length = m) → i < xs.length → q + ps.length ≤ m → (xs.set i (setAt (xs.getD i []) q ps)).flatten = setAt xs.flatten (i * m + q) ps
  | [], _, _, _, _, _, h, _ => by simp at h
  | x :: r, m, 0, q, ps, hm, _, hq => by
    have hx := hm x (by simp)
    simp only [List.set_cons_zero, List.flatten_cons, Nat.zero_mul, Nat.zero_add, List.getD_cons_zero]
    have key : ∀ (ps x : List AV) (q : Nat), q + ps.length ≤ x.length → setAt x q ps ++ r.flatten = setAt (x ++ r.flatten) q ps := by
      intro ps
      induction ps with
      | nil => intro x q _; rfl
      | cons p ps ih =>
        intro x q hq
        simp only [List.length_cons] at hq
        unfold setAt
        rw [ih (x.set q p) (q + 1) (by simp; omega), List.set_append_left _ _ (by omega)]
    exact key ps x q (by omega)
  | x :: r, m, i + 1, q, ps, hm, hi, hq => by
    have hx := hm x (by simp)
    simp only [List.set_cons_succ, List.flatten_cons, List.getD_cons_succ]
    rw [flatten_set r m i q ps (fun y hy => hm y (by simp [hy])) (by simpa using hi) hq]
    have key : ∀ (ps y : List AV) (q : Nat), x ++ setAt y q ps = setAt (x ++ y) (x.length + q) ps := by
      intro ps
      induction ps with
      | nil => intro y q; rfl
      | cons p ps ih =>
        intro y q
        unfold setAt
        rw [ih (y.set q p) (q + 1), List.set_append_right _ _ (by omega)]
        simp [Nat.add_assoc]
    rw [key, hx]
    congr 1
    rw [Nat.add_mul]; omega
theorem write_own (h : FR w0 S n st β a w) {x g i q e m : Nat} {xs : List (List AV)} {ps : List AV} {vs : List Value} (hx : st x = .own e m xs) (hg : β x = some g) (hi : i < xs.length) (hq : q + ps.length ≤ m) (hl : ps.length = vs.length) (h1 : ∀ u ∈ vs, u.oneCell' = true) (hr : ∀ (j : Nat) av u, ps[j]? = some av → vs[j]? = some u → Rel w (Imm S w0 w β) av u) :
    FR w0 S n (st.put x (.own e m (xs.set i (setAt (xs.getD i []) q ps)))) β a (w.setCells g (i * m + q) vs) ∧ ∃ t cur, Blk w g t cur ∧ xs.length * m ≤ cur.size := by
  have hs := h.slot x
  rw [hx] at hs
  have hs0 : OwnAt w w0.base (Imm S w0 w β) e m xs (a.tmps.getD x undef) (β x) := hs
  obtain ⟨cells, hown, hm, h0, hbo, hone, hmax, hrel⟩ := hs0
  have hcl := hown.1
  rcases hown.2 with ⟨hv, hz⟩ | ⟨g', cap, cur, hv, hbg, hgg, hnc, hcm, hcs, htake⟩
  · omega
  · have : g' = g := by
      rw [hv, hg] at hbo; injection hbo with hbo
    subst this
    have hle : xs.length * m ≤ cur.size := by rw [hcs]; exact Nat.mul_le_mul_right _ hnc
    have hle2 : i * m + q + ps.length ≤ xs.length * m := by
      have : (i + 1) * m ≤ xs.length * m := Nat.mul_le_mul_right _ hi
      rw [Nat.add_mul] at this; omega
    obtain ⟨r1, r2, r3⟩ := setCells_rest g' vs (i * m + q) w
    refine ⟨h.write (w' := w.setCells g' (i * m + q) vs) hg r1 r2 r3 (setCells_size g' vs _ w) (fun b hb => setCells_block g' vs _ w b hb) (.inr ⟨e, m, xs, _, hx, rfl, by simp⟩) (fun I hI => ?_), e, cur, hgg, hle⟩
    have hcr : CellsRel w (Imm S w0 w β) xs.flatten cells.toArray := by
      refine ⟨by simp [hcl, flatten_len xs m hm], fun u hu => hone u (by simpa using hu), fun j av hj => ?_⟩
      have := hrel j av hj
      simpa [Array.getD_eq_getD_getElem?, List.getD_eq_getElem?_getD] using this
    have hc := setArr_rel (q := i * m + q) ps vs xs.flatten cells.toArray hl h1 hr hcr
    rw [← flatten_set xs m i q ps hm hi hq] at hc
    simp only [SlotRel]
    refine ⟨(setArr cells.toArray (i * m + q) vs).toList, ⟨?_, ?_⟩, fun y hy => ?_, h0, hbo, hc.2.1, by simpa using hmax, fun j av hj => ?_⟩
    · rw [Array.length_toList, setArr_size]; simp [hcl]
    · refine .inr ⟨g', cap, setArr cur (i * m + q) vs, by simpa using hv, hbg, blk_cells vs cur _ w hgg, by simpa using hnc, hcm, by rw [setArr_size]; exact hcs, ?_⟩
      rw [List.length_set]
      have key : ∀ (vs : List Value) (cur : Array Value) (q N : Nat), q + vs.length ≤ N → (setArr cur q vs).toList.take N = (setArr (cur.toList.take N).toArray q vs).toList := by
        intro vs
        induction vs with
        | nil => intro cur q N _; rfl
        | cons v vs ih =>
          intro cur q N hN
          simp only [List.length_cons] at hN
          unfold setArr
          rw [ih _ (q + 1) N (by omega)]
          congr 2
          apply Array.ext'
          rw [Array.toList_setIfInBounds, Array.toList_setIfInBounds]
          simp [List.take_set]
      rw [key vs cur (i * m + q) (xs.length * m) (by omega), htake]
    · rcases List.mem_or_eq_of_mem_set hy with hy | hy
      · exact hm y hy
      · rw [hy, setAt_length]; exact getD_mem hm hi
    · have := hc.2.2 j av hj
      have h2 := this.mono (w' := w.setCells g' (i * m + q) vs) hI (fun b o hb => World.cell?_of_block (a := ⟨b, o, none⟩) (setCells_block g' vs _ w b (fun e => by
        subst e
        rcases hb with hb | hb
        · exact h.apart hb (h.home x b hg).2.1
        · exact hb.2.2 x hg)))
      simpa [Array.getD_eq_getD_getElem?, List.getD_eq_getElem?_getD] using h2
theorem store_run {w : World} {t : TypeId} {g q : Nat} {v u : Value} (hs : (P.info? t).map (·.size) = some 1) (hc : w.cell? ⟨g, q, none⟩ = some u) (hf : w.frozen? ⟨g, q, none⟩ = false) (h1 : v.oneCell' = true) :
    (Instr.storeAt t (.pointer (some ⟨g, q, none⟩)) v).run P w = .ok () (w.setCells g q [v]) := by
  have hcs : v.cells = #[v] := by revert h1; cases v <;> intro h1 <;> first | rfl | (simp [Value.oneCell'] at h1; done)
  cases hi : P.info? t with
  | none => rw [hi] at hs; simp at hs
  | some i =>
    have hsz : i.size = 1 := by rw [hi] at hs; simpa using hs
    simp [Instr.storeAt, Instr.sureAddr, storeVar, sizeOf, typeInfo, hi, hsz, hcs, storeCells, run_store P w _ v _ h1, hc, hf, Addr.add_mid, World.setCells]
theorem cell_of_blk {g q : Nat} {t : TypeId} {cur : Array Value} (h : Blk w g t cur) (hq : q < cur.size) : (∃ u, w.cell? ⟨g, q, none⟩ = some u) ∧ w.frozen? ⟨g, q, none⟩ = false := ⟨⟨_, h.cell q _ (getD_arr hq)⟩, h.frozen q⟩
theorem rel_cell {I : Nat → Prop} {tm : Array Value} {av : AV} {u : Value} (h : VOk w I st β tm u av) (hc : av.cellOK = true) : Rel w I av u := by
  revert hc h
  cases av <;> intro h hc <;> first | exact h | (simp [AV.cellOK] at hc; done)
theorem does_store {t : TypeId} {p x : Operand} {p' x' : Opd} {d : Nat} (ho : o.op = .store t p x) (hdst : o.dst = none) (h : FR w0 S n st β a w) (hs : (P.info? t).map (·.size) = some 1) (hp : okOpd p p' = true) (hx : okOpd x x' = true) (hq : (ev st d (.store p' x')).1) :
    Does P w0 S n a w o (ev st d (.store p' x')).2 := by
  have hvp := view_ok h hp
  have hvx := view_ok h hx
  have one : (view st x').cellOK = true → ∀ (j : Nat) av u, [view st x'][j]? = some av → [a.eval x][j]? = some u → Rel w (Imm S w0 w β) av u := fun hc j av u ha hu => by
    cases j with
    | zero => simp at ha hu; subst ha; subst hu; exact rel_cell hvx hc
    | succ j => simp at ha
  have fin : ∀ {st' : ASt} {w'} {β'}, (Instr.storeAt t (a.eval p) (a.eval x)).run P w = .ok () w' → FR w0 S n st' β' a w' → Does P w0 S n a w o st' := fun {st' w' β'} hr hf => .inr ⟨w', β', by simp [execOp, ho, hr], hf, hdst⟩
  revert hq
  simp only [ev]
  split
  · rename_i k q hk
    split
    · rename_i cs hcs
      intro ⟨hlt, hc⟩
      rw [hk] at hvp
      obtain ⟨_, g, hg, hpv⟩ := hvp
      have h1 := one_of_rel (rel_cell hvx hc) hc
      obtain ⟨hf, tt, cur, hb, hsz⟩ := write_box h (q := q) (ps := [view st x']) (vs := [a.eval x]) hcs hg rfl (by simpa using h1) (one hc)
      obtain ⟨⟨u, hu⟩, hfz⟩ := cell_of_blk (q := q) hb (by omega)
      exact fin (by rw [hpv]; exact store_run hs hu hfz h1) hf
    · exact fun h => h.elim
  · rename_i k i q hk
    split
    · rename_i e m xs hxs
      intro ⟨hlt, hc⟩
      rw [hk] at hvp
      obtain ⟨e', m', xs', g, hxs', hi, hg, hpv⟩ := hvp
      rw [hxs] at hxs'; cases hxs'
      have h1 := one_of_rel (rel_cell hvx hc) hc
      obtain ⟨hf, tt, cur, hb, hsz⟩ := write_own h (i := i) (q := q) (ps := [view st x']) (vs := [a.eval x]) hxs hg hi (by simp; omega) rfl (by simpa using h1) (one hc)
      have hle : i * m + q < cur.size := by
        have : (i + 1) * m ≤ xs.length * m := Nat.mul_le_mul_right _ hi
        rw [Nat.add_mul] at this; omega
      obtain ⟨⟨u, hu⟩, hfz⟩ := cell_of_blk (q := i * m + q) hb hle
      exact fin (by rw [hpv]; exact store_run hs hu hfz h1) hf
    · exact fun h => h.elim
  · exact fun h => h.elim
theorem stores_run {w : World} {t tt : TypeId} {g q : Nat} {vs cur : Array Value} (hb : Blk w g tt cur) (hle : q + vs.size ≤ cur.size) (h1 : ∀ u ∈ vs.toList, u.oneCell' = true) (hi : (P.info? t).map (·.size) = some vs.size) : (Instr.storeAt t (.pointer (some ⟨g, q, none⟩)) (.agg vs)).run P w = .ok () (w.setCells g q vs.toList) :=
  run_storeAt_mid w g q t vs (fun j hj => by
    obtain ⟨⟨u, hu⟩, hf⟩ := cell_of_blk (q := q + j) hb (by omega)
    exact ⟨by rw [hu]; rfl, hf⟩) hi (Array.all_eq_true_iff_forall_mem.2 fun v hv => h1 v (Array.mem_toList_iff.2 hv))
theorem does_stores {t : TypeId} {k : Nat} {p x : Operand} {p' x' : Opd} {d : Nat} (ho : o.op = .store t p x) (hdst : o.dst = none) (h : FR w0 S n st β a w) (hi : (P.info? t).map (·.size) = some k) (hp : okOpd p p' = true) (hx : okOpd x x' = true) (hq : (ev st d (.stores k p' x')).1) :
    Does P w0 S n a w o (ev st d (.stores k p' x')).2 := by
  have hvp := view_ok h hp
  have hvx := view_ok h hx
  have fin : ∀ {st' : ASt} {w'} {β'}, (Instr.storeAt t (a.eval p) (a.eval x)).run P w = .ok () w' → FR w0 S n st' β' a w' → Does P w0 S n a w o st' := fun {st' w' β'} hr hf => .inr ⟨w', β', by simp [execOp, ho, hr], hf, hdst⟩
  have rel : ∀ {ps : List AV} {vs : Array Value}, (∀ j av, ps[j]? = some av → Rel w (Imm S w0 w β) av (vs.getD j undef)) → ∀ (j : Nat) av u, ps[j]? = some av → vs.toList[j]? = some u → Rel w (Imm S w0 w β) av u := fun {ps vs} hr j av u ha hu => by
    have := hr j av ha
    rwa [Array.getD_eq_getD_getElem?, ← Array.getElem?_toList, hu] at this
  revert hq
  simp only [ev]
  split
  · rename_i b q vs hk hxv
    rw [hxv] at hvx
    rw [hk] at hvp
    obtain ⟨_, g, hg, hpv⟩ := hvp
    revert hvx; generalize hva : a.eval x = va at fin ⊢; intro hvx
    cases hvx with
    | agg _ us hl hone hrel =>
      split
      · rename_i cs hcs
        intro ⟨hk2, hlt⟩
        obtain ⟨hf, tt, cur, hb, hsz⟩ := write_box h (q := q) (ps := vs) (vs := us.toList) hcs hg (by simp [hl]) hone (rel hrel)
        exact fin (by rw [hpv]; exact stores_run hb (by omega) hone (by rw [hi, hl, hk2])) hf
      · exact fun h => h.elim
  · rename_i b i q vs hk hxv
    rw [hxv] at hvx
    rw [hk] at hvp
    obtain ⟨e', m', xs', g, hxs', hii, hg, hpv⟩ := hvp
    revert hvx; generalize hva : a.eval x = va at fin ⊢; intro hvx
    cases hvx with
    | agg _ us hl hone hrel =>
      split
      · rename_i e m xs hxs
        intro ⟨hk2, hlt⟩
        rw [hxs] at hxs'; injection hxs' with r1 r2 r3; subst r1; subst r2; subst r3
        obtain ⟨hf, tt, cur, hb, hsz⟩ := write_own h (i := i) (q := q) (ps := vs) (vs := us.toList) hxs hg hii hlt (by simp [hl]) hone (rel hrel)
        have hle : i * m + q + us.size ≤ cur.size := by
          have : (i + 1) * m ≤ xs.length * m := Nat.mul_le_mul_right _ hii
          rw [Nat.add_mul] at this; omega
        exact fin (by rw [hpv]; exact stores_run hb hle hone (by rw [hi, hl, hk2])) hf
      · exact fun h => h.elim
  · exact fun h => h.elim
/-- Every operation with an effect. -/
theorem eff_ok {po : PO} {d : Nat} (h : FR w0 S n st β a w) (hok : okEff P o.op po = true) (hdst : (o.dst = some d ∧ n.In d ∧ ∀ t p x, o.op ≠ .store t p x) ∨ (o.dst = none ∧ (∃ t p x, o.op = .store t p x))) (hp : (ev st d po).1) : Does P w0 S n a w o (ev st d po).2 := by
  generalize ho : o.op = oo at hok
  unfold okEff at hok
  split at hok
  · rcases hdst with ⟨h1, h2, _⟩ | ⟨_, t, p, x, hst⟩
    · exact does_asg ho h1 h2 h hok hp
    · rw [ho] at hst; cases hst
  · rcases hdst with ⟨h1, h2, _⟩ | ⟨_, t, p, x, hst⟩
    · rw [Bool.and_eq_true] at hok
      obtain ⟨q1, q2⟩ := hok
      split at q2
      · rename_i hat
        simp only [Bool.and_eq_true, beq_iff_eq, decide_eq_true_eq] at q2
        obtain ⟨⟨rfl, q3⟩, q4⟩ := q2
        exact does_app ho h1 h2 h q1 hat q3 q4 hp
      · cases q2
    · rw [ho] at hst; cases hst
  · rcases hdst with ⟨_, _, h3⟩ | ⟨h1, _⟩
    · exact absurd ho (h3 _ _ _)
    · simp only [Bool.and_eq_true, Bool.not_eq_true', decide_eq_true_eq] at hok
      exact does_store ho h1 h hok.1.1.2 hok.1.2 hok.2 hp
  · rcases hdst with ⟨_, _, h3⟩ | ⟨h1, _⟩
    · exact absurd ho (h3 _ _ _)
    · simp only [Bool.and_eq_true, decide_eq_true_eq] at hok
      exact does_stores ho h1 h hok.1.1 hok.1.2 hok.2 hp
  · cases hok
end
end Go.Proofs.Ytpecmhdepggnoaa
