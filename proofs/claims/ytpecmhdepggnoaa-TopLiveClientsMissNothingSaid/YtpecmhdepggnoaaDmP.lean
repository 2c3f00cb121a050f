/- The machine on data: what comes in is data of its type's shape; a law's last step. -/
import Derived.Test.YtpecmhdepggnoaaDmN
import Derived.Test.YtpecmhdepggnoaaLaw
namespace Go.Proofs.Ytpecmhdepggnoaa
open Go.RowKit Go.Deep

/-- A cell's shape. -/
inductive CSh where
  | int (k : IntKind)
  | bool
  | str
  | row (l : List CSh)
mutual
inductive Has : CSh → AV → Prop
  | int {k : IntKind} {n : Int} (h : (Lit.int k n).wf = true) : Has (.int k) (.val (.int k n))
  | bool (b : Bool) : Has .bool (.val (.bool b))
  | str (s : ByteArray) (h : s.size ≤ maxLen) : Has .str (.val (.string s))
  | row {l : List CSh} {xs : List (List AV)} (h : xs.length ≤ maxLen) (hx : ∀ x ∈ xs, HasAll l x) : Has (.row l) (.ro xs)
inductive HasAll : List CSh → List AV → Prop
  | nil : HasAll [] []
  | cons {s : CSh} {av : AV} {l : List CSh} {avs : List AV} (h : Has s av) (hl : HasAll l avs) : HasAll (s :: l) (av :: avs)
end
theorem HasAll.len : ∀ {l : List CSh} {avs : List AV}, HasAll l avs → avs.length = l.length
  | [], [], _ => rfl
  | _ :: _, _ :: _, .cons _ h => by simp [h.len]
theorem HasAll.append : ∀ {l r : List CSh} {zs bs : List AV}, HasAll l zs → HasAll r bs → HasAll (l ++ r) (zs ++ bs)
  | [], _, [], _, _, h => h
  | _ :: _, _, _ :: _, _, .cons h hl, h2 => .cons h (hl.append h2)

inductive CRel (w : World) (I : Nat → Prop) : List AV → List Value → Prop
  | nil : CRel w I [] []
  | cons {av : AV} {v : Value} {avs : List AV} {vs : List Value} (h1 : v.oneCell' = true) (h : Rel w I av v) (hl : CRel w I avs vs) : CRel w I (av :: avs) (v :: vs)
section
variable {w : World} {I : Nat → Prop}
theorem CRel.len : ∀ {avs : List AV} {vs : List Value}, CRel w I avs vs → vs.length = avs.length
  | [], [], _ => rfl
  | _ :: _, _ :: _, .cons _ _ h => by simp [h.len]
theorem CRel.append : ∀ {zs bs : List AV} {vs us : List Value}, CRel w I zs vs → CRel w I bs us → CRel w I (zs ++ bs) (vs ++ us)
  | [], _, [], _, _, h => h
  | _ :: _, _, _ :: _, _, .cons h1 h hl, h2 => .cons h1 h (hl.append h2)
theorem CRel.one : ∀ {zs : List AV} {vs : List Value}, CRel w I zs vs → ∀ u ∈ vs, u.oneCell' = true
  | _ :: _, _ :: _, .cons h1 _ hl, u, hu => by
    rcases List.mem_cons.1 hu with rfl | hu
    · exact h1
    · exact hl.one u hu
  | [], [], _, u, hu => by simp at hu
theorem CRel.get : ∀ {zs : List AV} {vs : List Value}, CRel w I zs vs → ∀ (j : Nat) av, zs[j]? = some av → Rel w I av (vs.getD j undef)
  | _ :: _, _ :: _, .cons _ h hl, j, av, hj => by
    cases j with
    | zero => simp at hj; subst hj; simpa using h
    | succ j => simpa using hl.get j av (by simpa using hj)
  | [], [], _, j, av, hj => by simp at hj
end

def shpFields (P : Program) (sh : TypeId → Option (List CSh)) : List Field → Nat → Option (List CSh)
  | [], _ => some []
  | f :: r, o => if f.offset = o then (sh f.type).bind fun l => if P.cellsOf f.type = l.length then (shpFields P sh r (o + l.length)).map (l ++ ·) else none else none
def shp (P : Program) : Nat → TypeId → Option (List CSh)
  | 0, _ => none
  | n + 1, t => match P.underlying t with
    | some .bool => some [.bool]
    | some (.int k) => some [.int k]
    | some .string => some [.str]
    | some (.slice e) => (shp P n e).bind fun l => if P.cellsOf e = l.length ∧ 0 < l.length then some [.row l] else none
    | some (.struct fs) => (shpFields P (shp P n) fs.toList 0).bind fun l => if P.cellsOf t = l.length then some l else none
    | _ => none

section
variable {H : Type} {enc : TypeId × Value → H} {P : Program} {w : World} {sp : Nat → Bool} {hd : Bool}
theorem shp_fields {sh : TypeId → Option (List CSh)} {cs : List Value} {n : Nat}
    (ih : ∀ (t : TypeId) l (cs : List Value) x, sh t = some l → DataW.trod enc P w 0 sp hd n t cs = some x → ∃ avs, HasAll l avs ∧ CRel w (· < w.heap.size) avs cs) :
    ∀ (fs : List Field) (o : Nat) (l : List CSh), shpFields P sh fs o = some l → (∀ f ∈ fs, ∃ x, DataW.trod enc P w 0 sp hd n f.type ((cs.drop f.offset).take (P.cellsOf f.type)) = some x) →
      ∃ avs, HasAll l avs ∧ CRel w (· < w.heap.size) avs ((cs.drop o).take l.length)
  | [], o, l, h, _ => by
    simp [shpFields] at h; subst h
    exact ⟨[], .nil, by simpa using CRel.nil⟩
  | f :: r, o, l, h, hf => by
    unfold shpFields at h
    split at h
    · rename_i ho
      obtain ⟨l1, h1, h2⟩ := Option.bind_eq_some_iff.1 h
      split at h2
      · rename_i hc
        obtain ⟨l2, h3, rfl⟩ := Option.map_eq_some_iff.1 h2
        obtain ⟨x, hx⟩ := hf f (by simp)
        obtain ⟨zs, a1, a2⟩ := ih _ _ _ _ h1 hx
        obtain ⟨bs, b1, b2⟩ := shp_fields ih r _ _ h3 fun g hg => hf g (by simp [hg])
        refine ⟨zs ++ bs, a1.append b1, ?_⟩
        have e : (cs.drop o).take (l1 ++ l2).length = (cs.drop f.offset).take (P.cellsOf f.type) ++ (cs.drop (o + l1.length)).take l2.length := by
          rw [ho, hc, List.length_append, List.take_add, List.drop_drop]
        rw [e]
        exact a2.append b2
      · cases h2
    · cases h
theorem shp_trod : ∀ (n : Nat) (t : TypeId) (l : List CSh) (fuel : Nat) (cs : List Value) x, shp P n t = some l → DataW.trod enc P w 0 sp hd fuel t cs = some x → ∃ avs, HasAll l avs ∧ CRel w (· < w.heap.size) avs cs
  | 0, t, l, fuel, cs, x, h, _ => by simp [shp] at h
  | n + 1, t, l, fuel, cs, x, h, hx => by
    unfold shp at h
    split at h
    · rename_i ht
      cases h
      cases fuel with
      | zero => simp [DataW.trod] at hx
      | succ f =>
        unfold DataW.trod at hx
        rw [ht] at hx
        split at hx <;> simp_all
        rename_i b
        exact ⟨[.val (.bool b)], .cons (.bool b) .nil, .cons rfl (.val _) .nil⟩
    · rename_i k ht
      cases h
      obtain ⟨m, rfl, _, hw⟩ := DataW.trod_int ht hx
      exact ⟨[.val (.int k m)], .cons (.int hw) .nil, .cons rfl (.val _) .nil⟩
    · rename_i ht
      cases h
      obtain ⟨s, rfl, _, hw⟩ := DataW.trod_string ht hx
      exact ⟨[.val (.string s)], .cons (.str s hw) .nil, .cons rfl (.val _) .nil⟩
    · rename_i e ht
      obtain ⟨l1, h1, h2⟩ := Option.bind_eq_some_iff.1 h
      split at h2
      · rename_i hc
        obtain ⟨hc, hpos⟩ := hc
        cases h2
        rcases open_slice ht hx with ⟨rfl, _⟩ | ⟨a, len, cap, m, n', D, Pl, rfl, _, hl, hm, hmm, _, hel⟩
        · exact ⟨[.ro []], .cons (.row (Nat.zero_le _) (by simp)) .nil, .cons rfl (.ro0 _ _) .nil⟩
        · obtain ⟨X, hX⟩ := choose_lt (α := List AV × List Value) (p := fun i q => w.cells? 0 (a.add (i * P.cellsOf e)) (P.cellsOf e) = some q.2 ∧ HasAll l1 q.1 ∧ CRel w (· < w.heap.size) q.1 q.2) (n := len) (fun i hi => by
            have him : i < m := by split at hmm <;> omega
            obtain ⟨cs', c1, c2⟩ := hel i him
            obtain ⟨avs, a1, a2⟩ := shp_trod n _ _ _ _ _ h1 c2
            exact ⟨(avs, cs'), c1, a1, a2⟩)
          let xs : List (List AV) := (List.range len).map fun i => (X i).1
          have hxl : xs.length = len := by simp [xs]
          have hxe : ∀ x ∈ xs, HasAll l1 x := fun x hx => by
            obtain ⟨i, hi, rfl⟩ := List.mem_map.1 hx
            exact (hX i (List.mem_range.1 hi)).2.1
          refine ⟨[.ro xs], .cons (.row (by omega) hxe) .nil, ?_⟩
          refine .cons rfl ?_ .nil
          rcases Nat.eq_zero_or_pos len with h0 | h0
          · subst h0
            rw [show xs = [] from List.eq_nil_of_length_eq_zero hxl]
            exact .ro0 _ _
          · have hat : ∀ i r, i < len → r < P.cellsOf e → ∃ u, (X i).2[r]? = some u ∧ w.cell? (a.add (i * P.cellsOf e + r)) = some u ∧ u.oneCell' = true := fun i r hi hr => by
              obtain ⟨c1, c2, c3⟩ := hX i hi
              obtain ⟨_, d2, d3⟩ := World.cells?_some c1
              have hlt : r < (X i).2.length := by rw [d2]; exact hr
              have := d3 r hr
              rw [add_add, List.getElem?_eq_getElem hlt] at this
              exact ⟨_, List.getElem?_eq_getElem hlt, this, c3.one _ (List.getElem_mem hlt)⟩
            obtain ⟨u0, _, hu0, _⟩ := hat 0 0 h0 (by omega)
            rw [Nat.zero_mul, show a.add (0 + 0) = a by simp [Addr.add]] at hu0
            have hsp := spot_none hu0
            have hb := World.block_lt_of_cell? _ _ hu0
            obtain ⟨b, off, s⟩ := a
            simp only [Addr.mk.injEq, true_and] at hsp
            subst hsp
            have hxm : ∀ x ∈ xs, x.length = P.cellsOf e := fun x hx => by rw [hc]; exact (hxe x hx).len
            rw [← hxl]
            refine Rel.ro xs b off cap (P.cellsOf e) (fun j => ((X (j / P.cellsOf e)).2).getD (j % P.cellsOf e) undef) hb hxm (by omega) (by omega) (fun j hj => ?_) (fun j av hj => ?_)
            · rw [hxl] at hj
              have hq : j / P.cellsOf e < len := Nat.div_lt_of_lt_mul (by rw [Nat.mul_comm]; exact hj)
              obtain ⟨u, u1, u2, u3⟩ := hat _ (j % P.cellsOf e) hq (Nat.mod_lt _ (by omega))
              rw [add_eq, Nat.mul_comm, Nat.div_add_mod] at u2
              rw [List.getD_eq_getElem?_getD, u1]
              exact ⟨u2, u3⟩
            · have hj' : j < len * P.cellsOf e := by rw [← hxl, ← flatten_len xs _ hxm]; exact (List.getElem?_eq_some_iff.1 hj).1
              have hq : j / P.cellsOf e < len := Nat.div_lt_of_lt_mul (by rw [Nat.mul_comm]; exact hj')
              have hr := Nat.mod_lt j (show 0 < P.cellsOf e by omega)
              have hf := flatten_at xs (P.cellsOf e) (j / P.cellsOf e) (j % P.cellsOf e) hxm (by omega) hr
              rw [show j / P.cellsOf e * P.cellsOf e + j % P.cellsOf e = j by rw [Nat.mul_comm]; exact Nat.div_add_mod _ _, hj] at hf
              have hxi : xs.getD (j / P.cellsOf e) [] = (X (j / P.cellsOf e)).1 := by
                simp [xs, List.getD_eq_getElem?_getD, hq]
              rw [hxi] at hf
              exact (hX _ hq).2.2.get _ _ hf.symm
      · cases h2
    · rename_i fs ht
      obtain ⟨l1, h1, h2⟩ := Option.bind_eq_some_iff.1 h
      split at h2
      · rename_i hc
        cases h2
        obtain ⟨xs, n', _, _, hlen, hxs, hf⟩ := DataW.trod_struct ht hx
        obtain ⟨avs, a1, a2⟩ := shp_fields (cs := cs) (n := n') (fun t l cs x => shp_trod n t l n' cs x) fs.toList 0 _ h1 (fun f hf' => by
          obtain ⟨i, hi, rfl⟩ := List.getElem_of_mem hf'
          have hi' : i < fs.size := by simpa using hi
          have := hf i fs[i] (Array.getElem?_eq_getElem hi')
          refine ⟨xs[i]'(by omega), ?_⟩
          simpa [List.getElem?_eq_getElem (show i < xs.length by omega)] using this)
        refine ⟨avs, a1, ?_⟩
        rwa [List.drop_zero, ← hc, ← hlen, List.take_length] at a2
      · cases h2
    · cases h
end

/-- An argument's shape: one cell; a struct's cells. -/
inductive ASh where
  | one (s : CSh)
  | agg (l : List CSh)
def HasArg : ASh → AV → Prop
  | .one s, av => Has s av
  | .agg l, av => ∃ avs, av = .agg avs ∧ HasAll l avs
inductive HasArgs : List ASh → List AV → Prop
  | nil : HasArgs [] []
  | cons {s : ASh} {av : AV} {l : List ASh} {avs : List AV} (h : HasArg s av) (hl : HasArgs l avs) : HasArgs (s :: l) (av :: avs)
def argShp (P : Program) (t : TypeId) : Option ASh := match P.underlying t with
  | some (.struct _) => (shp P 9 t).map .agg
  | _ => match shp P 9 t with
    | some [s] => some (.one s)
    | _ => none
def argShps (P : Program) : List TypeId → Option (List ASh)
  | [] => some []
  | t :: ts => (argShp P t).bind fun a => (argShps P ts).map (a :: ·)
inductive RelAll (w : World) (I : Nat → Prop) : List AV → List Value → Prop
  | nil : RelAll w I [] []
  | cons {av : AV} {v : Value} {avs : List AV} {vs : List Value} (h : Rel w I av v) (hl : RelAll w I avs vs) : RelAll w I (av :: avs) (v :: vs)
theorem RelAll.len {w : World} {I : Nat → Prop} : ∀ {avs : List AV} {vs : List Value}, RelAll w I avs vs → vs.length = avs.length
  | [], [], _ => rfl
  | _ :: _, _ :: _, .cons _ h => by simp [h.len]
theorem RelAll.get {w : World} {I : Nat → Prop} : ∀ {zs : List AV} {vs : List Value}, RelAll w I zs vs → ∀ (j : Nat) av v, zs[j]? = some av → vs[j]? = some v → Rel w I av v
  | _ :: _, _ :: _, .cons h hl, j, av, v, hj, hv => by
    cases j with
    | zero => simp at hj hv; subst hj hv; exact h
    | succ j => exact hl.get j av v (by simpa using hj) (by simpa using hv)
  | [], [], .nil, j, av, v, hj, _ => by simp at hj
section
variable {H : Type} {enc : TypeId × Value → H} {P : Program} {W : World}
theorem arg_open {t : TypeId} {s : ASh} {v : Value} (hs : argShp P t = some s) (ho : ∃ base, Value.okWide P W .any base t v) (hd : ∃ d p, DataW.Trod enc P W 0 (fun _ => true) true t v d p) :
    ∃ av, HasArg s av ∧ Rel W (· < W.heap.size) av v := by
  obtain ⟨base, ho⟩ := ho
  obtain ⟨d, p, fuel, hd⟩ := hd
  unfold argShp at hs
  split at hs
  · rename_i fs ht
    obtain ⟨l, hl, rfl⟩ := Option.map_eq_some_iff.1 hs
    obtain ⟨avs, a1, a2⟩ := shp_trod 9 t l fuel _ _ hl hd
    simp only [Value.okWide, ht] at ho
    obtain ⟨cs, rfl, _, _⟩ := ho
    simp only [Value.cells] at a2
    exact ⟨.agg avs, ⟨avs, rfl, a1⟩, .agg _ _ (by simpa using a2.len) a2.one fun j av hj => by simpa [Array.getD_eq_getD_getElem?, List.getD_eq_getElem?_getD] using a2.get j av hj⟩
  · rename_i hns
    split at hs
    · rename_i s' hl
      cases hs
      have hone : v.cells.toList = [v] := by
        have hl' := hl
        unfold shp at hl'
        split at hl'
        · rename_i ht; obtain ⟨b, rfl⟩ := Go.WideShapes.okWide_bool ht ho; rfl
        · rename_i k ht; obtain ⟨b, rfl⟩ := Go.WideShapes.okWide_int ht ho; rfl
        · rename_i ht; obtain ⟨b, rfl⟩ := Go.WideShapes.okWide_string ht ho; rfl
        · rename_i e ht; obtain ⟨a, b, c, rfl⟩ := Go.WideShapes.okWide_slice ht ho; rfl
        · rename_i fs ht; exact absurd ht (hns fs)
        · cases hl'
      obtain ⟨avs, a1, a2⟩ := shp_trod 9 t _ fuel _ _ hl hd
      rw [hone] at a2
      cases a2 with
      | cons h1 h hl =>
        cases hl
        cases a1 with
        | cons g1 gl => exact ⟨_, g1, h⟩
    · cases hs
def ArgsP (enc : TypeId × Value → H) (P : Program) (W : World) (ts : List TypeId) (vs : List Value) : Prop :=
  (∀ (j : Nat) t v, ts[j]? = some t → vs[j]? = some v → ∃ base, Value.okWide P W .any base t v) ∧ ∃ ds ps, DataW.TrodAll enc P W 0 (fun _ => true) true ts vs ds ps
theorem args_open : ∀ {ts : List TypeId} {ss : List ASh} {vs : List Value}, argShps P ts = some ss → ArgsP enc P W ts vs → ∃ avs, HasArgs ss avs ∧ RelAll W (· < W.heap.size) avs vs
  | [], ss, vs, hs, h => by
    cases hs
    obtain ⟨_, ds, ps, hA⟩ := h
    match vs, ds, hA with
    | [], [], _ => exact ⟨[], .nil, .nil⟩
  | t :: ts, ss, vs, hs, h => by
    obtain ⟨a, h1, h2⟩ := Option.bind_eq_some_iff.1 hs
    obtain ⟨l, h3, rfl⟩ := Option.map_eq_some_iff.1 h2
    obtain ⟨hv, ds, ps, hA⟩ := h
    match vs, ds, hA with
    | v :: vs', d :: ds', hA =>
      obtain ⟨p, q, hd, h5, _⟩ := hA
      obtain ⟨av, q1, q2⟩ := arg_open h1 (hv 0 t v rfl rfl) ⟨d, p, hd⟩
      obtain ⟨avs, r1, r2⟩ := args_open h3 ⟨fun j t' v' ht' hv' => hv (j + 1) t' v' ht' hv', ds', q, h5⟩
      exact ⟨_, .cons q1 r1, .cons q2 r2⟩
theorem law_dmP {f : FuncId} {ts : List TypeId} {ss : List ASh} {args : Array Value} (hs : argShps P ts = some ss) (h : ArgsP enc P W ts args.toList) (hT : TabB W W.heap.size) (hf : ∀ avs, HasArgs ss avs → CallOK P f avs (.val (.bool true))) : Calls P f args W (Gives (.bool true) W) := by
  obtain ⟨avs, h1, h2⟩ := args_open hs h
  have := hf avs h1 W (· < W.heap.size) args.toList hT (fun _ h => h) h2.len h2.get
  rw [Array.toArray_toList] at this
  refine this.mono fun e w' ⟨v, he, hb, hr⟩ => ⟨?_, hb⟩
  subst he
  have hr' : Rel w' _ (.val (.bool true)) v := hr
  cases hr'
  rfl
/-- A law's last step: for all data of the arguments' shapes it hands back true. -/
theorem law_dmT {f : FuncId} {ts : List TypeId} {ss : List ASh} {args : Array Value} (hs : argShps Try.prog ts = some ss) (h : ArgsIn enc W ts args.toList) (hT : TabB W W.heap.size) (hf : ∀ avs, HasArgs ss avs → CallOK Try.prog f avs (.val (.bool true))) : Calls Try.prog f args W (Gives (.bool true) W) :=
  law_dmP (P := Try.prog) hs h hT hf
theorem law_dm {f : FuncId} {ts : List TypeId} {ss : List ASh} {args : Array Value} (h0 : tabs = []) (hs : argShps Try.prog ts = some ss) (h : ArgsIn enc W ts args.toList) (hf : ∀ avs, HasArgs ss avs → CallOK Try.prog f avs (.val (.bool true))) : Calls Try.prog f args W (Gives (.bool true) W) :=
  law_dmT hs h (fun g cs hg => by rw [h0] at hg; cases hg) hf
end

/-! ### Data out of shapes -/
def I64 (n : Int) : Prop := -9223372036854775808 ≤ n ∧ n ≤ 9223372036854775807
theorem has_int {av : AV} (h : Has (.int .i64) av) : ∃ n, av = .val (.int .i64 n) ∧ I64 n := by
  cases h with
  | int h => exact ⟨_, rfl, bounds_i64 h⟩
theorem has_bool {av : AV} (h : Has .bool av) : ∃ b, av = .val (.bool b) := by
  cases h with
  | bool b => exact ⟨b, rfl⟩
theorem has_str {av : AV} (h : Has .str av) : ∃ s, av = .val (.string s) ∧ s.size ≤ maxLen := by
  cases h with
  | str s h => exact ⟨s, rfl, h⟩
theorem all_cons {s : CSh} {l : List CSh} {avs : List AV} (h : HasAll (s :: l) avs) : ∃ av r, avs = av :: r ∧ Has s av ∧ HasAll l r := by
  cases h with
  | cons h hl => exact ⟨_, _, rfl, h, hl⟩
theorem all_nil {avs : List AV} (h : HasAll [] avs) : avs = [] := by
  cases h; rfl
theorem args_cons {s : ASh} {l : List ASh} {avs : List AV} (h : HasArgs (s :: l) avs) : ∃ av r, avs = av :: r ∧ HasArg s av ∧ HasArgs l r := by
  cases h with
  | cons h hl => exact ⟨_, _, rfl, h, hl⟩
theorem args_nil {avs : List AV} (h : HasArgs [] avs) : avs = [] := by
  cases h; rfl
theorem exists_map {α : Type} {f : α → List AV} {p : α → Prop} : ∀ {xs : List (List AV)}, (∀ x ∈ xs, ∃ q, x = f q ∧ p q) → ∃ l : List α, xs = l.map f ∧ ∀ q ∈ l, p q
  | [], _ => ⟨[], rfl, by simp⟩
  | x :: xs, h => by
    obtain ⟨q, rfl, hq⟩ := h x (by simp)
    obtain ⟨l, rfl, hl⟩ := exists_map (f := f) (p := p) (xs := xs) fun y hy => h y (by simp [hy])
    exact ⟨q :: l, rfl, fun y hy => by
      rcases List.mem_cons.1 hy with rfl | hy
      · exact hq
      · exact hl y hy⟩
theorem has_row {α : Type} {l : List CSh} {av : AV} {f : α → List AV} {p : α → Prop} (h : Has (.row l) av) (hf : ∀ x, HasAll l x → ∃ q, x = f q ∧ p q) : ∃ ys : List α, av = .ro (ys.map f) ∧ ys.length ≤ maxLen ∧ ∀ q ∈ ys, p q := by
  cases h with
  | row h1 hx =>
    rename_i xs
    obtain ⟨ys, rfl, hp⟩ := exists_map (f := f) (p := p) (xs := xs) fun x hx' => hf x (hx x hx')
    exact ⟨ys, rfl, by simpa using h1, hp⟩
end Go.Proofs.Ytpecmhdepggnoaa
