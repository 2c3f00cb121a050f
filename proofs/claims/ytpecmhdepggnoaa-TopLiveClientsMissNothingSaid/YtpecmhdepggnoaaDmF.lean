/- The machine on data: structs that are built; all operations that only look. -/
import Derived.Test.YtpecmhdepggnoaaDmE
namespace Go.Proofs.Ytpecmhdepggnoaa
open Go.RowKit

/-- Cells, as values. -/
def CellsRel (w : World) (I : Nat → Prop) (cs : List AV) (vs : Array Value) : Prop :=
  vs.size = cs.length ∧ (∀ u ∈ vs.toList, u.oneCell' = true) ∧ ∀ j av, cs[j]? = some av → Rel w I av (vs.getD j undef)
theorem getD_arr {vs : Array Value} {j : Nat} (h : j < vs.size) : vs[j]? = some (vs.getD j undef) := by
  rw [Array.getD_eq_getD_getElem?, Array.getElem?_eq_getElem h]; rfl
theorem CellsRel.set {w : World} {I : Nat → Prop} {cs : List AV} {vs : Array Value} (h : CellsRel w I cs vs) {i : Nat} {av : AV} {u : Value} (h1 : u.oneCell' = true) (hr : Rel w I av u) : CellsRel w I (cs.set i av) (vs.setIfInBounds i u) := by
  refine ⟨by simp [h.1], fun v hv => ?_, fun j av' hj => ?_⟩
  · rw [Array.toList_setIfInBounds] at hv
    rcases List.mem_or_eq_of_mem_set hv with hv | hv
    · exact h.2.1 v hv
    · rw [hv]; exact h1
  · rw [List.getElem?_set] at hj
    split at hj
    · rename_i hij
      subst hij
      split at hj
      · rename_i hlt
        injection hj with hj
        subst hj
        rw [Array.getD_eq_getD_getElem?, Array.getElem?_setIfInBounds]
        simp [h.1, hlt, hr]
      · cases hj
    · rename_i hij
      have := h.2.2 j av' hj
      rw [Array.getD_eq_getD_getElem?, Array.getElem?_setIfInBounds, if_neg hij, ← Array.getD_eq_getD_getElem?]
      exact this
theorem CellsRel.put {w : World} {I : Nat → Prop} : ∀ (ps : List AV) (us : List Value) (cs : List AV) (vs : Array Value) (i : Nat), ps.length = us.length → (∀ u ∈ us, u.oneCell' = true) → (∀ (j : Nat) av u, ps[j]? = some av → us[j]? = some u → Rel w I av u) → CellsRel w I cs vs →
    ∀ k, CellsRel w I (setAt cs (i + k) ps) ((us.zipIdx k).foldl (fun cs (c, j) => cs.setIfInBounds (i + j) c) vs)
  | [], [], cs, vs, i, _, _, _, h, k => by simpa [setAt] using h
  | [], _ :: _, _, _, _, h, _, _, _, _ => by simp at h
  | _ :: _, [], _, _, _, h, _, _, _, _ => by simp at h
  | p :: ps, u :: us, cs, vs, i, hl, h1, hr, h, k => by
    rw [List.zipIdx_cons, List.foldl_cons]
    unfold setAt
    have := CellsRel.put ps us (cs.set (i + k) p) (vs.setIfInBounds (i + k) u) i (by simpa using hl) (fun v hv => h1 v (by simp [hv])) (fun j av v ha hv => hr (j + 1) av v (by simpa using ha) (by simpa using hv)) (h.set (h1 u (by simp)) (hr 0 p u rfl rfl)) (k + 1)
    rw [show i + k + 1 = i + (k + 1) by omega]
    exact this
theorem setAt_length : ∀ (ps cs : List AV) (i : Nat), (setAt cs i ps).length = cs.length
  | [], cs, i => rfl
  | p :: ps, cs, i => by unfold setAt; rw [setAt_length ps]; simp

section
variable {P : Program} {w0 : Ent} {w : World} {S : Nat → Prop} {n : Lim} {st : ASt} {β : Bt} {a : Act} {o : Oper}
theorem one_of_rel {I : Nat → Prop} {av : AV} {u : Value} (h : Rel w I av u) (hc : av.cellOK = true) : u.oneCell' = true := by
  cases h <;> first | (simp [AV.cellOK] at hc; done) | rfl | exact hc
/-- A part, as it is stored. -/
theorem elem_cells {I : Nat → Prop} {tm : Array Value} {m : Nat} {av : AV} {u : Value} (h : VOk w I st β tm u av) (hp : (elemOf m av).1) : (elemOf m av).2.length = m ∧ CellsRel w I (elemOf m av).2 u.cells := by
  have one : av.cellOK = true → Rel w I av u → CellsRel w I [av] u.cells ∧ True := fun hc hr => by
    have h1 := one_of_rel hr hc
    have hcs : u.cells = #[u] := by cases u <;> first | rfl | (simp [Value.oneCell'] at h1; done)
    rw [hcs]
    refine ⟨⟨rfl, by simpa using h1, fun j av' hj => ?_⟩, trivial⟩
    cases j with
    | zero => simp at hj; subst hj; exact hr
    | succ j => simp at hj
  revert hp
  unfold elemOf
  split
  · rename_i cs
    intro hl
    cases h with
    | agg _ vs hl2 h1 hrel => exact ⟨hl, hl2, h1, hrel⟩
  · intro ⟨hc, hm⟩
    refine ⟨hm.symm, ?_⟩
    have hr : Rel w I av u := by
      revert hc h
      cases av <;> intro h hc <;> first | exact h | (simp [AV.cellOK] at hc; done)
    exact (one hc hr).1
theorem okZero_rel : ∀ (vs z : List Value), okZero vs z = true → z.all Value.oneCell' = true → vs.length = z.length ∧ (∀ u ∈ vs, u.oneCell' = true) ∧ vs = z
  | [], [], _, _ => ⟨rfl, by simp, rfl⟩
  | [], _ :: _, h, _ => by simp [okZero] at h
  | v :: vs, [], h, _ => by unfold okZero at h; split at h <;> simp_all
  | v :: vs, u :: z, h, h1 => by
    have h1' : z.all Value.oneCell' = true := by simp at h1 ⊢; exact h1.2
    have hu : u.oneCell' = true := by simp at h1; exact h1.1
    have key : v = u ∧ okZero vs z = true := by
      unfold okZero at h
      split at h
      · rename_i e; cases e
      · rename_i e1 e2; cases e1; cases e2; exact ⟨rfl, h⟩
      · rename_i e1 e2; cases e1; cases e2; exact ⟨rfl, h⟩
      · rename_i e1 e2
        cases e1; cases e2
        rw [Bool.and_eq_true] at h
        refine ⟨?_, h.2⟩
        have := okConst_rel (w := default) (I := fun _ => True) (st := fun _ => .junk) (β := fun _ => none) (tm := #[]) h.1
        cases this; rfl
      · cases h
    obtain ⟨rfl, hz⟩ := key
    obtain ⟨a1, a2, a3⟩ := okZero_rel vs z hz h1'
    exact ⟨by simp [a1], fun x hx => by rcases List.mem_cons.1 hx with rfl | hx; exact hu; exact a2 x hx, by rw [a3]⟩
theorem fill_ok (h : FR w0 S n st β a w) {places : List (Nat × Nat)} : ∀ (ps : List (Nat × Operand)) (qs : List (Nat × Nat × Opd)) (cs : List AV) (vs : Array Value), okParts ps qs places = true → CellsRel w (Imm S w0 w β) cs vs →
    (putParts cs (qs.map fun p => (p.1, p.2.1, view st p.2.2))).1 → ∃ us, Instr.fill (places.toArray[·]?) vs (ps.map fun p => (p.1, a.eval p.2)) = some us ∧ CellsRel w (Imm S w0 w β) (putParts cs (qs.map fun p => (p.1, p.2.1, view st p.2.2))).2 us
  | [], [], cs, vs, _, hr, _ => ⟨vs, rfl, hr⟩
  | [], _ :: _, _, _, h, _, _ => by simp [okParts] at h
  | _ :: _, [], _, _, h, _, _ => by simp [okParts] at h
  | (i, x) :: ps, (off, m, y) :: qs, cs, vs, hok, hr, hp => by
    simp only [okParts, Bool.and_eq_true, decide_eq_true_eq] at hok
    obtain ⟨⟨hpl, hxy⟩, hrest⟩ := hok
    simp only [List.map_cons, putParts] at hp ⊢
    obtain ⟨⟨hle, he⟩, hp'⟩ := hp
    obtain ⟨hlen, hcs⟩ := elem_cells (view_ok h hxy) he
    have hsz : (a.eval x).cells.size = m := by rw [hcs.1, hlen]
    have hput := CellsRel.put (i := off) (elemOf m (view st y)).2 (a.eval x).cells.toList cs vs (by rw [hlen]; simp [hsz]) hcs.2.1
      (fun j av u ha hu => by
        have := hcs.2.2 j av ha
        have hj : j < (a.eval x).cells.size := by have := (List.getElem?_eq_some_iff.1 hu).1; simpa using this
        rw [Array.getD_eq_getD_getElem?, ← Array.getElem?_toList, hu] at this
        exact this) hr 0
    obtain ⟨us, hus, hres⟩ := fill_ok h ps qs (setAt cs off (elemOf m (view st y)).2) ((a.eval x).cells.zipIdx.foldl (fun cs (c, j) => cs.setIfInBounds (off + j) c) vs) hrest (by
      have e : (a.eval x).cells.zipIdx.foldl (fun cs (c, j) => cs.setIfInBounds (off + j) c) vs = (((a.eval x).cells.toList).zipIdx 0).foldl (fun cs (c, j) => cs.setIfInBounds (off + j) c) vs := by
        rw [← Array.foldl_toList]; simp
      rw [e]; exact hput) hp'
    refine ⟨us, ?_, hres⟩
    simp only [Instr.fill]
    have hpl' : places.toArray[i]? = some (off, m) := by simpa using hpl
    rw [hpl']
    simp only
    rw [if_neg (by rw [hsz, hr.1]; simp; omega)]
    exact hus
theorem look_build {t : TypeId} {parts : Array (Nat × Operand)} {i : TypeInfo} {fs : Array Field} {v : Value} {places : List (Nat × Nat)} {z : List Value} {qs : List (Nat × Nat × Opd)} (ho : o.op = .build t parts) (h : FR w0 S n st β a w) (hi : P.info? t = some i) (hu : P.underlying t = some (.struct fs))
    (hz : i.zero = some v) (hm : fs.toList.mapM (fun f => (P.info? f.type).map fun j => (f.offset, j.size)) = some places) (hzz : okZero v.cells.toList z = true) (hq : okParts parts.toList qs places = true) (hp : (hv st (.build z qs)).1) : Looks P w0 S st β a w o (hv st (.build z qs)).2 := by
  simp only [hv] at hp ⊢
  obtain ⟨h1, hp⟩ := hp
  obtain ⟨hl, hc, he⟩ := okZero_rel v.cells.toList z hzz h1
  have hcs : CellsRel w (Imm S w0 w β) (z.map zav) v.cells := by
    refine ⟨by simp; rw [← hl]; simp, hc, fun j av hj => ?_⟩
    rw [List.getElem?_map, Option.map_eq_some_iff] at hj
    obtain ⟨u, hu, rfl⟩ := hj
    rw [Array.getD_eq_getD_getElem?, ← Array.getElem?_toList, he, hu]
    exact zav_rel _
  obtain ⟨us, hus, hres⟩ := fill_ok h parts.toList qs _ _ hq hcs hp
  refine ⟨.agg us, ?_, Rel.agg _ _ hres.1 hres.2.1 hres.2.2⟩
  have hb : P.built t (parts.map fun p => (p.1, a.eval p.2)).toList = some us := by
    simp only [Program.built, hi, hu, hz, hm]
    rw [Array.toList_map]
    exact hus
  have := run_build (P := P) w t (parts.map fun p => (p.1, a.eval p.2)) us hb
  simp only [execOp, ho, Sem.run_bind]
  have e : (parts.map fun x => match x with | (i, x) => (i, a.eval x)) = parts.map fun p => (p.1, a.eval p.2) := rfl
  rw [e, this]
  rfl

theorem run_part1 {P : Program} (w : World) {t : TypeId} {xs : Array Value} {o : Nat} {v : Value} {d : TypeDesc} (hu : P.underlying t = some d) (hd : d.isRow = false) (hx : xs[o]? = some v) : (part t xs o).run P w = .ok v w := by
  cases d <;> first | (simp at hd; done) | simp [part, isAgg, run_underlying hu, hx]
theorem eqFields_flat {P : Program} {w : World} {I : Nat → Prop} (e : Nat) (xs ys : Array Value) : ∀ (fs : List Field) (o : Nat) (ks : List Nat) (us vs : List AV), flatFs P fs o ks = true → (eqAV ks us vs).1 →
    (∀ j av, us[j]? = some av → ∃ u, xs[o + j]? = some u ∧ Rel w I av u) → (∀ j av, vs[j]? = some av → ∃ u, ys[o + j]? = some u ∧ Rel w I av u) → (Op.eqFields (e + 1) xs ys fs).run P w = .ok (eqAV ks us vs).2 w
  | [], o, ks, us, vs, hf, hq, _, _ => by
    cases ks with
    | cons k ks => simp [flatFs] at hf
    | nil =>
      cases us <;> cases vs <;> first | rfl | (simp [eqAV] at hq)
  | f :: r, o, ks, us, vs, hf, hq, hx, hy => by
    cases ks with
    | nil => simp [flatFs] at hf
    | cons k ks =>
      simp only [flatFs, Bool.and_eq_true, beq_iff_eq, bne_iff_ne] at hf
      obtain ⟨⟨⟨rfl, hn⟩, ht⟩, hr⟩ := hf
      have go : ∀ {u1 u2 : Value} {us' vs' : List AV} {c : Bool} {d : TypeDesc}, us = .val u1 :: us' → vs = .val u2 :: vs' → P.underlying f.type = some d → d.isRow = false → (Op.equalIn (e + 1) f.type u1 u2).run P w = .ok c w → (eqAV ks us' vs').1 →
          (Op.eqFields (e + 1) xs ys (f :: r)).run P w = .ok (c && (eqAV ks us' vs').2) w := by
        rintro u1 u2 us' vs' c d rfl rfl hu hd heq hq'
        obtain ⟨q1, x1, x2⟩ := hx 0 _ rfl
        obtain ⟨q2, y1, y2⟩ := hy 0 _ rfl
        cases x2; cases y2
        have ih := eqFields_flat e xs ys r (f.offset + 1) ks us' vs' hr hq' (fun j av hj => by have := hx (j + 1) av (by simpa using hj); rwa [show f.offset + 1 + j = f.offset + (j + 1) by omega])
          (fun j av hj => by have := hy (j + 1) av (by simpa using hj); rwa [show f.offset + 1 + j = f.offset + (j + 1) by omega])
        simp only [Op.eqFields, hn, ne_eq, not_false_eq_true, if_true, Sem.run_bind, run_part1 w hu hd (by simpa using x1), run_part1 w hu hd (by simpa using y1), Result.andThen_ok, heq]
        cases c
        · simp
        · simpa using ih
      unfold eqAV at hq ⊢
      split at hq
      · rename_i h; cases h
      · rename_i h
        cases h
        obtain ⟨rfl, hq⟩ := hq
        obtain ⟨kk, hu⟩ := tag_0 ht
        exact go rfl rfl hu rfl (run_equalIn_int w e f.type _ kk _ _ hu) hq
      · rename_i h
        cases h
        have hu := tag_1 ht
        exact go rfl rfl hu rfl (run_equalIn_bool' w e f.type _ _ hu) hq
      · rename_i h
        cases h
        have hu := tag_2 ht
        exact go rfl rfl hu rfl (run_equalIn_string w e f.type _ _ hu) hq
      · exact hq.elim
theorem look_eqs {op : BinOp} {t t2 : TypeId} {x y : Operand} {x' y' : Opd} {n' : Bool} {ks : List Nat} (ho : o.op = .binOp op t x y t2) (h : FR w0 S n st β a w) (hop : op = if n' = true then .neq else .eql) (hf : flatEq P t ks = true) (hx : okOpd x x' = true) (hy : okOpd y y' = true) (hp : (hv st (.eqs n' ks x' y')).1) :
    Looks P w0 S st β a w o (hv st (.eqs n' ks x' y')).2 := by
  revert hp
  simp only [hv]
  split
  · rename_i us vs h1 h2
    intro hp
    have v1 := view_ok h hx
    rw [h1] at v1
    have v2 := view_ok h hy
    rw [h2] at v2
    have r1 : Rel w (Imm S w0 w β) (.agg us) (a.eval x) := v1
    have r2 : Rel w (Imm S w0 w β) (.agg vs) (a.eval y) := v2
    obtain ⟨xs, e1, c1⟩ : ∃ xs, a.eval x = .agg xs ∧ ∀ j av, us[j]? = some av → ∃ u, xs[0 + j]? = some u ∧ Rel w (Imm S w0 w β) av u := by
      revert r1; generalize a.eval x = q; intro r1
      cases r1 with
      | agg _ q hl ho hr => exact ⟨q, rfl, fun j av hj => ⟨_, by rw [Nat.zero_add]; exact getD_arr (by rw [hl]; exact (List.getElem?_eq_some_iff.1 hj).1), hr j av hj⟩⟩
    obtain ⟨ys, e2, c2⟩ : ∃ xs, a.eval y = .agg xs ∧ ∀ j av, vs[j]? = some av → ∃ u, xs[0 + j]? = some u ∧ Rel w (Imm S w0 w β) av u := by
      revert r2; generalize a.eval y = q; intro r2
      cases r2 with
      | agg _ q hl ho hr => exact ⟨q, rfl, fun j av hj => ⟨_, by rw [Nat.zero_add]; exact getD_arr (by rw [hl]; exact (List.getElem?_eq_some_iff.1 hj).1), hr j av hj⟩⟩
    unfold flatEq at hf
    split at hf
    · rename_i fs hu
      simp only [Bool.and_eq_true, Bool.not_eq_true'] at hf
      obtain ⟨⟨f1, f2⟩, f3⟩ := hf
      have hfs : P.fieldsOf t = fs := by simp [Program.fieldsOf, hu]
      have hr : (Op.equalIn 10000 t (.agg xs) (.agg ys)).run P w = .ok (eqAV ks us vs).2 w := by
        rw [run_equalIn_struct w 9999 t xs ys (by rw [hfs]; exact hu) f2, hfs]
        exact eqFields_flat 9998 xs ys fs.toList 0 ks us vs f1 hp c1 c2
      refine ⟨.bool (if n' = true then !(eqAV ks us vs).2 else (eqAV ks us vs).2), ?_, Rel.val _⟩
      simp only [execOp, ho, e1, e2, Sem.run_bind, run_eqGuard_agg w op t x y xs ys f3, Result.andThen_ok]
      subst hop
      cases n'
      · simp [run_eql_struct, hr]
      · simp [run_neq_struct, hr]
    · cases hf
  · exact fun h => h.elim
theorem look_eqb {op : BinOp} {t t2 : TypeId} {x y : Operand} {x' y' : Opd} {n' : Bool} (ho : o.op = .binOp op t x y t2) (h : FR w0 S n st β a w) (hop : op = if n' = true then .neq else .eql) (hf : boolT P t = true) (hx : okOpd x x' = true) (hy : okOpd y y' = true) (hp : (hv st (.eqb n' x' y')).1) :
    Looks P w0 S st β a w o (hv st (.eqb n' x' y')).2 := by
  revert hp
  simp only [hv]
  split
  · rename_i u v h1 h2
    intro hp
    have e1 := vval h hx h1
    have e2 := vval h hy h2
    have hu : P.underlying t = some .bool := by
      unfold boolT at hf
      split at hf
      · assumption
      · cases hf
    refine ⟨.bool (if n' = true then !(u == v) else u == v), ?_, Rel.val _⟩
    subst hop
    cases n'
    · simp [execOp, ho, e1, e2, eqGuard, binOp, run_equal_bool w t u v hu]
    · simp [execOp, ho, e1, e2, eqGuard, binOp, run_equal_bool w t u v hu]
  · exact fun h => h.elim

/-- Every operation that only looks. -/
theorem hv_loadr {x : Opd} (hp : (hv st (.loadr x)).1) : (hv st (.load x)).1 ∧ (hv st (.load x)).2 = (hv st (.loadr x)).2 := by
  revert hp
  simp only [hv]
  cases view st x <;> intro hp <;> first | exact hp.elim | exact ⟨hp, rfl⟩
theorem hv_loadsr {m : Nat} {x : Opd} (hp : (hv st (.loadsr m x)).1) : (hv st (.loads m x)).1 ∧ (hv st (.loads m x)).2 = (hv st (.loadsr m x)).2 := by
  revert hp
  simp only [hv]
  cases view st x <;> intro hp <;> first | exact hp.elim | exact ⟨hp, rfl⟩
theorem hv_idxr {m : Nat} {x i : Opd} (hp : (hv st (.idxr m x i)).1) : (hv st (.idx m x i)).1 ∧ (hv st (.idx m x i)).2 = (hv st (.idxr m x i)).2 := by
  revert hp
  simp only [hv]
  cases view st x <;> intro hp <;> first | exact hp.elim | exact ⟨hp, rfl⟩ | skip
  all_goals
    revert hp
    cases view st i <;> intro hp <;> first | exact hp.elim | exact ⟨hp, rfl⟩ | skip
  all_goals
    rename_i v
    revert hp
    cases v <;> intro hp <;> first | exact hp.elim | exact ⟨hp, rfl⟩
theorem look_ok {po : PO} (h : FR w0 S n st β a w) (hok : okLook P o.op po = true) (hp : (hv st po).1) : Looks P w0 S st β a w o (hv st po).2 := by
  generalize ho : o.op = oo at hok
  unfold okLook at hok
  split at hok
  · exact look_mv (.inl ho) h hok
  · exact look_mv (.inr ho) h hok
  · simp only [Bool.and_eq_true] at hok; exact look_pick ho h hok.1.1 hok.1.2 hok.2 hp
  · simp only [Bool.and_eq_true, decide_eq_true_eq] at hok; obtain ⟨⟨rfl, h1⟩, h2⟩ := hok; exact look_bin ho h h1 h2 hp
  · simp only [Bool.and_eq_true, decide_eq_true_eq] at hok; exact look_eqs ho h hok.1.1.1 hok.1.1.2 hok.1.2 hok.2 hp
  · simp only [Bool.and_eq_true, decide_eq_true_eq] at hok; exact look_eqb ho h hok.1.1.1 hok.1.1.2 hok.1.2 hok.2 hp
  · simp only [Bool.and_eq_true, decide_eq_true_eq] at hok; obtain ⟨rfl, h1⟩ := hok; exact look_un ho h h1 hp
  · simp only [Bool.and_eq_true] at hok; exact look_conv ho h hok.1.1 hok.1.2 hok.2 hp
  · simp only [Bool.and_eq_true, Bool.not_eq_true'] at hok; exact look_load ho h hok.1 hok.2 hp
  · simp only [Bool.and_eq_true, decide_eq_true_eq] at hok; exact look_loads ho h hok.1.1.1 hok.1.1.2 hok.1.2 hok.2 hp
  · rw [Bool.and_eq_true] at hok
    obtain ⟨h1, h2⟩ := hok
    split at h1
    · rename_i hs
      split at h1
      · rename_i hf
        split at h1
        · rename_i hi
          simp only [Bool.and_eq_true, decide_eq_true_eq, beq_iff_eq] at h1
          exact look_fld ho h hs hf hi h1.1 h1.2 h2 hp
        · cases h1
      · cases h1
    · cases h1
  · simp only [Bool.and_eq_true] at hok; exact look_idx ho h hok.1.1 hok.1.2 hok.2 hp
  · simp only [Bool.and_eq_true] at hok; exact look_idxs ho h hok.1.1 hok.1.2 hok.2 hp
  · split at hok
    · rename_i h1 h2
      rw [Bool.and_eq_true] at hok
      obtain ⟨h3, h4⟩ := hok
      split at h4
      · exact look_len ho h h1 h2 h3 h4 hp
      · cases h4
    · cases hok
  · split at hok
    · rename_i h1 h2
      rw [Bool.and_eq_true] at hok
      exact look_lens ho h h1 h2 hok.1 hok.2 hp
    · cases hok
  · exact look_minmax (mx := true) ho h hok hp
  · exact look_minmax (mx := false) ho h hok hp
  · simp only [Bool.and_eq_true, beq_iff_eq] at hok; obtain ⟨rfl, h1⟩ := hok; exact look_ext ho h h1 hp
  · exact look_nilck ho h hok hp
  · simp only [Bool.and_eq_true] at hok; exact look_slc ho h hok.1.1.1 hok.1.1.2 hok.1.2 hok.2 hp
  · simp only [Bool.and_eq_true] at hok; exact look_slcs ho h hok.1.1.1 hok.1.1.2 hok.1.2 hok.2 hp
  · split at hok
    · rename_i h1 h2
      split at hok
      · rename_i h3 h4
        rw [Bool.and_eq_true] at hok
        exact look_build ho h h1 h2 h3 h4 hok.1 hok.2 hp
      · cases hok
    · cases hok
  · simp only [Bool.and_eq_true, decide_eq_true_eq] at hok
    obtain ⟨q1, q2⟩ := hv_loadsr hp
    rw [← q2]; exact look_loads ho h hok.1.1.1 hok.1.1.2 hok.1.2 hok.2 q1
  · simp only [Bool.and_eq_true, decide_eq_true_eq] at hok; exact look_mkfnr ho h hok.1.1 hok.1.2 hok.2 hp
  · simp only [Bool.and_eq_true, decide_eq_true_eq] at hok; exact look_mkfn ho h hok.1.1 hok.1.2 hok.2 hp
  · simp only [Bool.and_eq_true, Bool.not_eq_true'] at hok
    obtain ⟨q1, q2⟩ := hv_loadr hp
    rw [← q2]; exact look_load ho h hok.1 hok.2 q1
  · simp only [Bool.and_eq_true] at hok
    obtain ⟨q1, q2⟩ := hv_idxr hp
    rw [← q2]; exact look_idx ho h hok.1.1 hok.1.2 hok.2 q1
  · cases hok
end
end Go.Proofs.Ytpecmhdepggnoaa
