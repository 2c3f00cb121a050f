/- The machine on data: arguments whose slices are no greater than a machine can reach; a law's last step for them. -/
import Derived.Test.YtpecmhdepggnoaaDmP
import Derived.SizedLaws
namespace Go.Proofs.Ytpecmhdepggnoaa
open Go.RowKit Go.Deep

mutual
inductive HasZ : CSh → AV → Prop
  | int {k : IntKind} {n : Int} (h : (Lit.int k n).wf = true) : HasZ (.int k) (.val (.int k n))
  | bool (b : Bool) : HasZ .bool (.val (.bool b))
  | str (s : ByteArray) (h : s.size ≤ maxLen) : HasZ .str (.val (.string s))
  | row {l : List CSh} {xs : List (List AV)} (h : xs.length * 16 ≤ reachBytes) (hx : ∀ x ∈ xs, HasAllZ l x) : HasZ (.row l) (.ro xs)
inductive HasAllZ : List CSh → List AV → Prop
  | nil : HasAllZ [] []
  | cons {s : CSh} {av : AV} {l : List CSh} {avs : List AV} (h : HasZ s av) (hl : HasAllZ l avs) : HasAllZ (s :: l) (av :: avs)
end
theorem HasAllZ.len : ∀ {l : List CSh} {avs : List AV}, HasAllZ l avs → avs.length = l.length
  | [], [], _ => rfl
  | _ :: _, _ :: _, .cons _ h => by simp [h.len]
theorem HasAllZ.append : ∀ {l r : List CSh} {zs bs : List AV}, HasAllZ l zs → HasAllZ r bs → HasAllZ (l ++ r) (zs ++ bs)
  | [], _, [], _, _, h => h
  | _ :: _, _, _ :: _, _, .cons h hl, h2 => .cons h (hl.append h2)

def shpZ (P : Program) : Nat → TypeId → Option (List CSh)
  | 0, _ => none
  | n + 1, t => match P.underlying t with
    | some .bool => some [.bool]
    | some (.int k) => some [.int k]
    | some .string => some [.str]
    | some (.slice e) => (shpZ P n e).bind fun l => if P.cellsOf e = l.length ∧ 0 < l.length ∧ 16 ≤ P.bytesOf e then some [.row l] else none
    | some (.struct fs) => (shpFields P (shpZ P n) fs.toList 0).bind fun l => if P.cellsOf t = l.length then some l else none
    | _ => none

section
variable {H : Type} {enc : TypeId × Value → H} {P : Program} {w : World} {sp : Nat → Bool} {hd : Bool}
/-- No slice in it is beyond a machine's reach. -/
def SizedD (P : Program) (t : TypeId) (d : DataW H) : Prop := ∀ n ∈ d.weights P t, n ≤ reachBytes
theorem shpz_fields {sh : TypeId → Option (List CSh)} {cs : List Value} {n : Nat}
    (ih : ∀ (t : TypeId) l (cs : List Value) (x : DataW H × List MemPlace), sh t = some l → DataW.trod enc P w 0 sp hd n t cs = some x → SizedD P t x.1 → ∃ avs, HasAllZ l avs ∧ CRel w (· < w.heap.size) avs cs) :
    ∀ (fs : List Field) (o : Nat) (l : List CSh), shpFields P sh fs o = some l → (∀ f ∈ fs, ∃ x, DataW.trod enc P w 0 sp hd n f.type ((cs.drop f.offset).take (P.cellsOf f.type)) = some x ∧ SizedD P f.type x.1) →
      ∃ avs, HasAllZ l avs ∧ CRel w (· < w.heap.size) avs ((cs.drop o).take l.length)
  | [], o, l, h, _ => by
    simp [shpFields] at h; subst h
    exact ⟨[], .nil, by simpa using CRel.nil⟩
  | f :: r, o, l, h, hf => by
    unfold shpFields at h
    split at h
    · rename_i ho
      obtain ⟨l1, h1, h2⟩ := Option.bind_eq_some_iff.1 h
      split at h2
      · rename_i hc
        obtain ⟨l2, h3, rfl⟩ := Option.map_eq_some_iff.1 h2
        obtain ⟨x, hx, hz⟩ := hf f (by simp)
        obtain ⟨zs, a1, a2⟩ := ih _ _ _ _ h1 hx hz
        obtain ⟨bs, b1, b2⟩ := shpz_fields ih r _ _ h3 fun g hg => hf g (by simp [hg])
        refine ⟨zs ++ bs, a1.append b1, ?_⟩
        have e : (cs.drop o).take (l1 ++ l2).length = (cs.drop f.offset).take (P.cellsOf f.type) ++ (cs.drop (o + l1.length)).take l2.length := by
          rw [ho, hc, List.length_append, List.take_add, List.drop_drop]
        rw [e]
        exact a2.append b2
      · cases h2
    · cases h
theorem weights_all {e : TypeId} : ∀ {ds : List (DataW H)} {d : DataW H}, d ∈ ds → ∀ n ∈ d.weights P e, n ∈ DataW.weightsAll P e ds
  | d0 :: ds, d, hd, n, hn => by
    simp only [DataW.weightsAll, List.mem_append]
    rcases List.mem_cons.1 hd with rfl | hd
    · exact .inl hn
    · exact .inr (weights_all hd n hn)
  | [], _, hd, _, _ => by simp at hd
theorem shpz_trod : ∀ (n : Nat) (t : TypeId) (l : List CSh) (fuel : Nat) (cs : List Value) (x : DataW H × List MemPlace), shpZ P n t = some l → DataW.trod enc P w 0 sp hd fuel t cs = some x → SizedD P t x.1 → ∃ avs, HasAllZ l avs ∧ CRel w (· < w.heap.size) avs cs
  | 0, t, l, fuel, cs, x, h, _, _ => by simp [shpZ] at h
  | n + 1, t, l, fuel, cs, x, h, hx, hz => by
    unfold shpZ at h
    split at h
    · rename_i ht
      cases h
      cases fuel with
      | zero => simp [DataW.trod] at hx
      | succ f =>
        unfold DataW.trod at hx
        rw [ht] at hx
        split at hx <;> simp_all
        rename_i b
        exact ⟨[.val (.bool b)], .cons (.bool b) .nil, .cons rfl (.val _) .nil⟩
    · rename_i k ht
      cases h
      obtain ⟨m, rfl, _, hw⟩ := DataW.trod_int ht hx
      exact ⟨[.val (.int k m)], .cons (.int hw) .nil, .cons rfl (.val _) .nil⟩
    · rename_i ht
      cases h
      obtain ⟨s, rfl, _, hw⟩ := DataW.trod_string ht hx
      exact ⟨[.val (.string s)], .cons (.str s hw) .nil, .cons rfl (.val _) .nil⟩
    · rename_i e ht
      obtain ⟨l1, h1, h2⟩ := Option.bind_eq_some_iff.1 h
      split at h2
      · rename_i hc
        obtain ⟨hc, hpos, hby⟩ := hc
        cases h2
        rcases open_slice ht hx with ⟨rfl, _⟩ | ⟨a, len, cap, m, n', D, Pl, rfl, _, hl, hm, hmm, hxq, hel⟩
        · exact ⟨[.ro []], .cons (.row (Nat.zero_le _) (by simp)) .nil, .cons rfl (.ro0 _ _) .nil⟩
        · rw [hxq] at hz
          clear hxq
          simp only [SizedD, DataW.weights, ht] at hz
          have hlen : len * 16 ≤ reachBytes := by
            have := hz _ (List.mem_cons_self ..)
            simp only [List.length_map, List.length_range] at this
            exact Nat.le_trans (Nat.mul_le_mul (Nat.le_add_right _ _) hby) this
          have hzD : ∀ i, i < len → SizedD P e (D i) := fun i hi n hn => by
            refine hz n (List.mem_cons_of_mem _ (List.mem_append_left _ (weights_all (List.mem_map.2 ⟨i, List.mem_range.2 hi, rfl⟩) n hn)))
          obtain ⟨X, hX⟩ := choose_lt (α := List AV × List Value) (p := fun i q => w.cells? 0 (a.add (i * P.cellsOf e)) (P.cellsOf e) = some q.2 ∧ HasAllZ l1 q.1 ∧ CRel w (· < w.heap.size) q.1 q.2) (n := len) (fun i hi => by
            have him : i < m := by split at hmm <;> omega
            obtain ⟨cs', c1, c2⟩ := hel i him
            obtain ⟨avs, a1, a2⟩ := shpz_trod n _ _ _ _ _ h1 c2 (hzD i hi)
            exact ⟨(avs, cs'), c1, a1, a2⟩)
          let xs : List (List AV) := (List.range len).map fun i => (X i).1
          have hxl : xs.length = len := by simp [xs]
          have hxe : ∀ x ∈ xs, HasAllZ l1 x := fun x hx => by
            obtain ⟨i, hi, rfl⟩ := List.mem_map.1 hx
            exact (hX i (List.mem_range.1 hi)).2.1
          refine ⟨[.ro xs], .cons (.row (by rw [hxl]; exact hlen) hxe) .nil, ?_⟩
          refine .cons rfl ?_ .nil
          rcases Nat.eq_zero_or_pos len with h0 | h0
          · subst h0
            rw [show xs = [] from List.eq_nil_of_length_eq_zero hxl]
            exact .ro0 _ _
          · have hat : ∀ i r, i < len → r < P.cellsOf e → ∃ u, (X i).2[r]? = some u ∧ w.cell? (a.add (i * P.cellsOf e + r)) = some u ∧ u.oneCell' = true := fun i r hi hr => by
              obtain ⟨c1, c2, c3⟩ := hX i hi
              obtain ⟨_, d2, d3⟩ := World.cells?_some c1
              have hlt : r < (X i).2.length := by rw [d2]; exact hr
              have := d3 r hr
              rw [add_add, List.getElem?_eq_getElem hlt] at this
              exact ⟨_, List.getElem?_eq_getElem hlt, this, c3.one _ (List.getElem_mem hlt)⟩
            obtain ⟨u0, _, hu0, _⟩ := hat 0 0 h0 (by omega)
            rw [Nat.zero_mul, show a.add (0 + 0) = a by simp [Addr.add]] at hu0
            have hsp := spot_none hu0
            have hb := World.block_lt_of_cell? _ _ hu0
            obtain ⟨b, off, s⟩ := a
            simp only [Addr.mk.injEq, true_and] at hsp
            subst hsp
            have hxm : ∀ x ∈ xs, x.length = P.cellsOf e := fun x hx => by rw [hc]; exact (hxe x hx).len
            rw [← hxl]
            refine Rel.ro xs b off cap (P.cellsOf e) (fun j => ((X (j / P.cellsOf e)).2).getD (j % P.cellsOf e) undef) hb hxm (by omega) (by omega) (fun j hj => ?_) (fun j av hj => ?_)
            · rw [hxl] at hj
              have hq : j / P.cellsOf e < len := Nat.div_lt_of_lt_mul (by rw [Nat.mul_comm]; exact hj)
              obtain ⟨u, u1, u2, u3⟩ := hat _ (j % P.cellsOf e) hq (Nat.mod_lt _ (by omega))
              rw [add_eq, Nat.mul_comm, Nat.div_add_mod] at u2
              rw [List.getD_eq_getElem?_getD, u1]
              exact ⟨u2, u3⟩
            · have hj' : j < len * P.cellsOf e := by rw [← hxl, ← flatten_len xs _ hxm]; exact (List.getElem?_eq_some_iff.1 hj).1
              have hq : j / P.cellsOf e < len := Nat.div_lt_of_lt_mul (by rw [Nat.mul_comm]; exact hj')
              have hr := Nat.mod_lt j (show 0 < P.cellsOf e by omega)
              have hf := flatten_at xs (P.cellsOf e) (j / P.cellsOf e) (j % P.cellsOf e) hxm (by omega) hr
              rw [show j / P.cellsOf e * P.cellsOf e + j % P.cellsOf e = j by rw [Nat.mul_comm]; exact Nat.div_add_mod _ _, hj] at hf
              have hxi : xs.getD (j / P.cellsOf e) [] = (X (j / P.cellsOf e)).1 := by
                simp [xs, List.getD_eq_getElem?_getD, hq]
              rw [hxi] at hf
              exact (hX _ hq).2.2.get _ _ hf.symm
      · cases h2
    · rename_i fs ht
      obtain ⟨l1, h1, h2⟩ := Option.bind_eq_some_iff.1 h
      split at h2
      · rename_i hc
        cases h2
        obtain ⟨xs, n', _, hxe, hlen, hxs, hf⟩ := DataW.trod_struct ht hx
        rw [hxe] at hz
        simp only [SizedD, DataW.weights, ht] at hz
        obtain ⟨avs, a1, a2⟩ := shpz_fields (cs := cs) (n := n') (fun t l cs x => shpz_trod n t l n' cs x) fs.toList 0 _ h1 (fun f hf' => by
          obtain ⟨i, hi, rfl⟩ := List.getElem_of_mem hf'
          have hi' : i < fs.size := by simpa using hi
          have hix : i < xs.length := by omega
          have := hf i fs[i] (Array.getElem?_eq_getElem hi')
          refine ⟨xs[i]'hix, by simpa [List.getElem?_eq_getElem hix] using this, fun n hn => ?_⟩
          refine hz n (DataW.weights_mem_each (j := i) (t := fs.toList[i].type) (d := (xs[i]'hix).1) ?_ ?_ n hn)
          · rw [List.getElem?_map, List.getElem?_eq_getElem hi]; rfl
          · rw [List.getElem?_map, List.getElem?_eq_getElem hix]; rfl)
        refine ⟨avs, a1, ?_⟩
        rwa [List.drop_zero, ← hc, ← hlen, List.take_length] at a2
      · cases h2
    · cases h
end

def HasArgZ : ASh → AV → Prop
  | .one s, av => HasZ s av
  | .agg l, av => ∃ avs, av = .agg avs ∧ HasAllZ l avs
inductive HasArgsZ : List ASh → List AV → Prop
  | nil : HasArgsZ [] []
  | cons {s : ASh} {av : AV} {l : List ASh} {avs : List AV} (h : HasArgZ s av) (hl : HasArgsZ l avs) : HasArgsZ (s :: l) (av :: avs)
def argShpZ (P : Program) (t : TypeId) : Option ASh := match P.underlying t with
  | some (.struct _) => (shpZ P 9 t).map .agg
  | _ => match shpZ P 9 t with
    | some [s] => some (.one s)
    | _ => none
def argShpsZ (P : Program) : List TypeId → Option (List ASh)
  | [] => some []
  | t :: ts => (argShpZ P t).bind fun a => (argShpsZ P ts).map (a :: ·)
section
variable {H : Type} {enc : TypeId × Value → H} {P : Program} {W : World}
theorem arg_openz {t : TypeId} {s : ASh} {v : Value} (hs : argShpZ P t = some s) (ho : ∃ base, Value.okWide P W .any base t v) {d : DataW H} {p : List MemPlace} (hd : DataW.Trod enc P W 0 (fun _ => true) true t v d p) (hz : SizedD P t d) :
    ∃ av, HasArgZ s av ∧ Rel W (· < W.heap.size) av v := by
  obtain ⟨base, ho⟩ := ho
  obtain ⟨fuel, hd⟩ := hd
  unfold argShpZ at hs
  split at hs
  · rename_i fs ht
    obtain ⟨l, hl, rfl⟩ := Option.map_eq_some_iff.1 hs
    obtain ⟨avs, a1, a2⟩ := shpz_trod 9 t l fuel _ _ hl hd hz
    simp only [Value.okWide, ht] at ho
    obtain ⟨cs, rfl, _, _⟩ := ho
    simp only [Value.cells] at a2
    exact ⟨.agg avs, ⟨avs, rfl, a1⟩, .agg _ _ (by simpa using a2.len) a2.one fun j av hj => by simpa [Array.getD_eq_getD_getElem?, List.getD_eq_getElem?_getD] using a2.get j av hj⟩
  · rename_i hns
    split at hs
    · rename_i s' hl
      cases hs
      have hone : v.cells.toList = [v] := by
        have hl' := hl
        unfold shpZ at hl'
        split at hl'
        · rename_i ht; obtain ⟨b, rfl⟩ := Go.WideShapes.okWide_bool ht ho; rfl
        · rename_i k ht; obtain ⟨b, rfl⟩ := Go.WideShapes.okWide_int ht ho; rfl
        · rename_i ht; obtain ⟨b, rfl⟩ := Go.WideShapes.okWide_string ht ho; rfl
        · rename_i e ht; obtain ⟨a, b, c, rfl⟩ := Go.WideShapes.okWide_slice ht ho; rfl
        · rename_i fs ht; exact absurd ht (hns fs)
        · cases hl'
      obtain ⟨avs, a1, a2⟩ := shpz_trod 9 t _ fuel _ _ hl hd hz
      rw [hone] at a2
      cases a2 with
      | cons h1 h hl =>
        cases hl
        cases a1 with
        | cons g1 gl => exact ⟨_, g1, h⟩
    · cases hs
def ArgsZ (enc : TypeId × Value → H) (P : Program) (W : World) (ts : List TypeId) (vs : List Value) : Prop :=
  (∀ (j : Nat) t v, ts[j]? = some t → vs[j]? = some v → ∃ base, Value.okWide P W .any base t v) ∧ ∃ ds ps, DataW.TrodAll enc P W 0 (fun _ => true) true ts vs ds ps ∧ ∀ n ∈ DataW.weightsEach P ts ds, n ≤ reachBytes
theorem args_openz : ∀ {ts : List TypeId} {ss : List ASh} {vs : List Value}, argShpsZ P ts = some ss → ArgsZ enc P W ts vs → ∃ avs, HasArgsZ ss avs ∧ RelAll W (· < W.heap.size) avs vs
  | [], ss, vs, hs, h => by
    cases hs
    obtain ⟨_, ds, ps, hA, _⟩ := h
    match vs, ds, hA with
    | [], [], _ => exact ⟨[], .nil, .nil⟩
  | t :: ts, ss, vs, hs, h => by
    obtain ⟨a, h1, h2⟩ := Option.bind_eq_some_iff.1 hs
    obtain ⟨l, h3, rfl⟩ := Option.map_eq_some_iff.1 h2
    obtain ⟨hv, ds, ps, hA, hz⟩ := h
    match vs, ds, hA, hz with
    | v :: vs', d :: ds', hA, hz =>
      obtain ⟨p, q, hd, h5, _⟩ := hA
      simp only [DataW.weightsEach, List.mem_append] at hz
      obtain ⟨av, q1, q2⟩ := arg_openz h1 (hv 0 t v rfl rfl) hd (fun n hn => hz n (.inl hn))
      obtain ⟨avs, r1, r2⟩ := args_openz h3 ⟨fun j t' v' ht' hv' => hv (j + 1) t' v' ht' hv', ds', q, h5, fun n hn => hz n (.inr hn)⟩
      exact ⟨_, .cons q1 r1, .cons q2 r2⟩
theorem each_left : ∀ {ts us : List TypeId} {ds gs : List (DataW H)}, ds.length = ts.length → ∀ n ∈ DataW.weightsEach P ts ds, n ∈ DataW.weightsEach P (ts ++ us) (ds ++ gs)
  | [], _, [], _, _, n, hn => by simp [DataW.weightsEach] at hn
  | t :: ts, us, d :: ds, gs, hl, n, hn => by
    simp only [DataW.weightsEach, List.cons_append, List.mem_append] at hn ⊢
    rcases hn with hn | hn
    · exact .inl hn
    · exact .inr (each_left (by simpa using hl) n hn)
  | [], _, _ :: _, _, hl, _, _ => by simp at hl
  | _ :: _, _, [], _, hl, _, _ => by simp at hl
theorem argsz_of {ts us : List TypeId} {vars : List String} {apart : Bool} {vs : List Value} {ds gs : List (DataW H)} {before : List MemPlace} (hW : DataW.Whole enc P ts vars apart W vs ds gs before)
    (hz : (DataW.weightsEach P (ts ++ us) (ds ++ gs)).all (· ≤ reachBytes) = true) (hv : ∀ (j : Nat) t v, ts[j]? = some t → vs[j]? = some v → ∃ base, Value.okWide P W .any base t v) : ArgsZ enc P W ts vs := by
  obtain ⟨p, q, hA, _⟩ := hW
  refine ⟨hv, ds, p, hA, fun n hn => ?_⟩
  have := List.all_eq_true.1 hz n (each_left (trodAll_len hA) n hn)
  simpa using this
theorem law_dmz {f : FuncId} {ts : List TypeId} {ss : List ASh} {args : Array Value} (h0 : tabs = []) (hs : argShpsZ P ts = some ss) (h : ArgsZ enc P W ts args.toList) (hf : ∀ avs, HasArgsZ ss avs → CallOK P f avs (.val (.bool true))) : Calls P f args W (Gives (.bool true) W) := by
  obtain ⟨avs, h1, h2⟩ := args_openz hs h
  have := hf avs h1 W (· < W.heap.size) args.toList (fun g cs hg => by rw [h0] at hg; cases hg) (fun _ h => h) h2.len h2.get
  rw [Array.toArray_toList] at this
  refine this.mono fun e w' ⟨v, he, hb, hr⟩ => ⟨?_, hb⟩
  subst he
  have hr' : Rel w' _ (.val (.bool true)) v := hr
  cases hr'
  rfl
end

/-! ### Data out of shapes -/
theorem hasz_int {av : AV} (h : HasZ (.int .i64) av) : ∃ n, av = .val (.int .i64 n) ∧ I64 n := by
  cases h with
  | int h => exact ⟨_, rfl, bounds_i64 h⟩
theorem hasz_bool {av : AV} (h : HasZ .bool av) : ∃ b, av = .val (.bool b) := by
  cases h with
  | bool b => exact ⟨b, rfl⟩
theorem hasz_str {av : AV} (h : HasZ .str av) : ∃ s, av = .val (.string s) ∧ s.size ≤ maxLen := by
  cases h with
  | str s h => exact ⟨s, rfl, h⟩
theorem allz_cons {s : CSh} {l : List CSh} {avs : List AV} (h : HasAllZ (s :: l) avs) : ∃ av r, avs = av :: r ∧ HasZ s av ∧ HasAllZ l r := by
  cases h with
  | cons h hl => exact ⟨_, _, rfl, h, hl⟩
theorem allz_nil {avs : List AV} (h : HasAllZ [] avs) : avs = [] := by
  cases h; rfl
theorem argsz_cons {s : ASh} {l : List ASh} {avs : List AV} (h : HasArgsZ (s :: l) avs) : ∃ av r, avs = av :: r ∧ HasArgZ s av ∧ HasArgsZ l r := by
  cases h with
  | cons h hl => exact ⟨_, _, rfl, h, hl⟩
theorem argsz_nil {avs : List AV} (h : HasArgsZ [] avs) : avs = [] := by
  cases h; rfl
theorem hasz_row {α : Type} {l : List CSh} {av : AV} {f : α → List AV} {p : α → Prop} (h : HasZ (.row l) av) (hf : ∀ x, HasAllZ l x → ∃ q, x = f q ∧ p q) : ∃ ys : List α, av = .ro (ys.map f) ∧ ys.length * 16 ≤ reachBytes ∧ ∀ q ∈ ys, p q := by
  cases h with
  | row h1 hx =>
    rename_i xs
    obtain ⟨ys, rfl, hp⟩ := exists_map (f := f) (p := p) (xs := xs) fun x hx' => hf x (hx x hx')
    exact ⟨ys, rfl, by simpa using h1, hp⟩
end Go.Proofs.Ytpecmhdepggnoaa
