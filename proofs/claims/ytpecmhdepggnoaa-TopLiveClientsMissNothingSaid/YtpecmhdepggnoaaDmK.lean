/- The machine on data: a list of operations, one behind the other. -/
import Derived.Test.YtpecmhdepggnoaaDmO
import Derived.Lib.SliceRun
import Derived.Lib.LazyBuf
namespace Go.Proofs.Ytpecmhdepggnoaa
open Go.RowKit

/-- One operation that is carried out; what holds of the slots behind it. -/
def opCore (P : Program) (st : ASt) (d : Nat) (K : ASt → Prop) : PO → Prop
  | .call f args => ∃ res, CallOK P f (args.map fun y => argv st (view st y)) res ∧ ((∀ y ∈ args, (view st y).noLoan = true) ∨ res.FlatRes) ∧ (st d).isHome = false ∧ K (st.put d res)
  | .callv x args => ∃ f ds res, (view st x).isFn f ds ∧ okFn P f = true ∧ CallOK P f ((args.map fun y => argv st (view st y)) ++ ds.map fun d => argv st (.ref d 0)) res ∧ (((∀ y ∈ args, (view st y).noLoan = true) ∧ ds = []) ∨ res.FlatRes) ∧ (st d).isHome = false ∧ K (st.put d res)
  | .callc x args => ∃ f cs res, view st x = .fnv f cs ∧ okFn P f = true ∧ CallOK P f ((args.map fun y => argv st (view st y)) ++ cs) res ∧ ((∀ y ∈ args, (view st y).noLoan = true) ∨ res.FlatRes) ∧ (st d).isHome = false ∧ K (st.put d res)
  | .callh f args => ∃ g e m xs res, CallH P f (args.map fun y => argv st (view st y)) e m xs res ∧ (∀ y ∈ args, (view st y).noLoan = true) ∧ (st d).isHome = false ∧ (st g).isHome = false ∧ g ≠ d ∧ ∀ r : Value, r.oneCell' = true → K ((st.put g (.held e m xs r)).put d (res r))
  | .apph e m b x y => ∃ g xs ys r, view st x = .val r ∧ st g = .held e m xs r ∧ rowOf st (view st y) = some ys ∧ g ≠ d ∧ (st d).isHome = false ∧ (∀ y ∈ ys, y.length = m) ∧ xs.length + ys.length ≤ 9223372036854775807 ∧ (xs.length + ys.length) * b ≤ 140737488355328 ∧
      ∀ r' : Value, r'.oneCell' = true → K (((st.free g).put d (.own e m (xs ++ ys))).hold d g e m (xs ++ ys) r')
  | .callm f (x :: r) => (st d).isHome = false ∧ (∀ y ∈ r, (view st y).noLoan = true) ∧ ((∃ k e m xs res, view st x = .alias k ∧ st k = .own e m xs ∧ TakeOK P f e m xs (r.map fun y => argv st (view st y)) res ∧ K ((st.free k).put d res)) ∨
      (∃ e m res, view st x = .nilsl ∧ 0 < m ∧ TakeOK P f e m [] (r.map fun y => argv st (view st y)) res ∧ K (st.put d res)) ∨
      (∃ k a1 res, (view st x = .alias k ∨ view st x = .ref k 0) ∧ (st k).turns a1 ∧ TurnOK P f (st k) a1 (r.map fun y => argv st (view st y)) res ∧ K ((st.put k a1).put d res)) ∨
      (∃ res, (view st x).noLoan = true ∧ CallOK P f (argv st (view st x) :: r.map fun y => argv st (view st y)) res ∧ K (st.put d res)))
  | .callm _ [] => False
  | .callt f (x :: r) avoid => (st d).isHome = false ∧ (∀ y ∈ r, (view st y).noLoan = true) ∧ ((∃ k e m xs res, view st x = .alias k ∧ st k = .own e m xs ∧ k ∉ avoid ∧ TakeOK P f e m xs (r.map fun y => argv st (view st y)) res ∧ K ((st.free k).put d res)) ∨
      (∃ e m res, view st x = .nilsl ∧ 0 < m ∧ TakeOK P f e m [] (r.map fun y => argv st (view st y)) res ∧ K (st.put d res)))
  | .callt _ [] _ => False
  | .callx f args => ∃ vs cs, args.map (view st) = vs.map AV.val ∧ ExtOK P f vs cs ∧ (st d).isHome = false ∧ K (st.put d (.tup (cs.map AV.val)))
  | .eqnil n x => ∃ xs, rowOf st (view st x) = some xs ∧ (st d).isHome = false ∧ ∀ b : Bool, (xs ≠ [] → b = false) → K (st.put d (.val (.bool (if n = true then !b else b))))
  | .asg x => (ev st d (.asg x)).1 ∧ K (ev st d (.asg x)).2
  | .app e m b x y => (ev st d (.app e m b x y)).1 ∧ K (ev st d (.app e m b x y)).2
  | .appa e m b x y avoid => (∀ h, view st x = .alias h → h ∉ avoid) ∧ (ev st d (.app e m b x y)).1 ∧ K (ev st d (.app e m b x y)).2
  | .store p x => (ev st d (.store p x)).1 ∧ K (ev st d (.store p x)).2
  | .stores k p x => (ev st d (.stores k p x)).1 ∧ K (ev st d (.stores k p x)).2
  | po => (st d).isHome = false ∧ (hv st po).1 ∧ K (st.put d (hv st po).2)
/-- One operation, under its guard. -/
def opStep (P : Program) (st : ASt) (p : POp) (K : ASt → Prop) : Prop :=
  match p.guard with
  | none => opCore P st p.dst K p.po
  | some (s, f) => ∃ v, st s = .val v ∧ (v = .bool f → opCore P st p.dst K p.po) ∧ (v ≠ .bool f → (st p.dst).isHome = false ∧ K (st.put p.dst (.val undef)))
def opsWP (P : Program) : List POp → (ASt → Prop) → ASt → Prop
  | [], K, st => K st
  | p :: l, K, st => opStep P st p (opsWP P l K)

def sliceAny (P : Program) (t : TypeId) : Bool := match P.underlying t with
  | some (.slice _) => true
  | _ => false
/-- A slice compared with nil. -/
def okNil (P : Program) : Op → PO → Bool
  | .binOp op t x (.const (.slice none 0 0)) _, .eqnil n x' => decide (op = if n = true then .neq else .eql) && sliceAny P t && okOpd x x'
  | _, _ => false
def isStore : Op → Bool
  | .store _ _ _ => true
  | _ => false
def okGuard (ops : Array Oper) : Option (Nat × Bool) → Option (Nat × Bool) → Bool
  | none, none => true
  | some (j, f), some (s, f') => f == f' && (match ops[j]? with
    | some o => (match o.dst with
      | some d => d == s
      | none => false)
    | none => false)
  | _, _ => false
def okPO (P : Program) (o : Op) : PO → Bool
  | .call f args => okCall P o (.call f args)
  | .callm f args => okCall P o (.call f args)
  | .callt f args _ => okCall P o (.call f args)
  | .callx f args => okCallx o (.callx f args)
  | .callv x args => okCallv o (.callv x args)
  | .callc x args => okCallv o (.callv x args)
  | .callh f args => okCall P o (.call f args)
  | .apph e m b x y => okEff P o (.app e m b x y)
  | .appa e m b x y _ => okEff P o (.app e m b x y)
  | .eqnil n x => okNil P o (.eqnil n x)
  | .asg x => okEff P o (.asg x)
  | .app e m b x y => okEff P o (.app e m b x y)
  | .store p x => okEff P o (.store p x)
  | .stores k p x => okEff P o (.stores k p x)
  | .alloc z => okMake P o (.alloc z)
  | .box x => okMake P o (.box x)
  | .boxs x => okMake P o (.boxs x)
  | .row e m ps => okMake P o (.row e m ps)
  | .rowr e m ps => okMake P o (.rowr e m ps)
  | .mk e m b z l c => okMake P o (.mk e m b z l c)
  | po => okLook P o po
/-- An operation that is not reached. -/
def isNever : POp → Bool
  | ⟨_, .never, none⟩ => true
  | _ => false
def okOper0 (P : Program) (n : Lim) (ops : Array Oper) (o : Oper) (p : POp) : Bool :=
  okGuard ops o.guard p.guard && (match o.dst with
    | some d => d == p.dst && decide (n.In d) && !isStore o.op
    | none => isStore o.op && o.guard.isNone) && okPO P o.op p.po
def okOper (P : Program) (n : Lim) (ops : Array Oper) (o : Oper) (p : POp) : Bool := (isNever p && o.guard.isNone) || okOper0 P n ops o p
def okOps (P : Program) (n : Lim) (ops : Array Oper) : List Oper → List POp → Bool
  | [], [] => true
  | o :: r, p :: s => okOper P n ops o p && okOps P n ops r s
  | _, _ => false

section
variable {P : Program} {w0 : Ent} {w : World} {S : Nat → Prop} {n : Lim} {st : ASt} {β : Bt} {a : Act} {o : Oper}
theorem store_of {op : Op} (h : isStore op = true) : ∃ t p x, op = .store t p x := by
  cases op <;> first | exact ⟨_, _, _, rfl⟩ | cases h
theorem wp_looks {av : AV} {d : Nat} {N : Act → World → Prop} {Q : Exit → Act → World → Prop} (h : FR w0 S n st β a w) (hl : Looks P w0 S st β a w o av) (hd : (st d).isHome = false) (hn : n.In d) (hdst : o.dst = some d)
    (hN : ∀ β' a' w', FR w0 S n (st.put d av) β' a' w' → N a' w') : o.wp P a w N Q := by
  obtain ⟨u, hr, hv⟩ := hl
  unfold Oper.wp
  rw [hr, Oper.upon_value, hdst]
  exact hN _ _ _ (put_view h hd hn hv)
theorem wp_makes {av : AV} {d : Nat} {N : Act → World → Prop} {Q : Exit → Act → World → Prop} (hl : Makes P w0 S n st a w o d av) (hdst : o.dst = some d) (hN : ∀ β' a' w', FR w0 S n (st.put d av) β' a' w' → N a' w') : o.wp P a w N Q := by
  obtain ⟨u, w', β', hr, hf⟩ := hl
  unfold Oper.wp
  rw [hr, Oper.upon_value, hdst]
  exact hN _ _ _ hf
theorem wp_called {av : AV} {d : Nat} {N : Act → World → Prop} {Q : Exit → Act → World → Prop} (hl : Called P w0 S n st a w o d av) (hdst : o.dst = some d) (hN : ∀ β' a' w', FR w0 S n (st.put d av) β' a' w' → N a' w') : o.wp P a w N Q := by
  obtain ⟨f, args, hr, hc⟩ := hl
  unfold Oper.wp
  rw [hr, Oper.upon_enter]
  refine hc.mono ?_
  rintro e w' ⟨v, β', rfl, hf⟩
  rw [hdst]
  exact hN _ _ _ hf
theorem wp_does {st' : ASt} {N : Act → World → Prop} {Q : Exit → Act → World → Prop} (hl : Does P w0 S n a w o st') (hN : ∀ β' a' w', FR w0 S n st' β' a' w' → N a' w') : o.wp P a w N Q := by
  rcases hl with ⟨u, w', β', hr, hf⟩ | ⟨w', β', hr, hf, hdst⟩
  · unfold Oper.wp
    rw [hr, Oper.upon_value]
    exact hN _ _ _ hf
  · unfold Oper.wp
    rw [hr, Oper.upon_skip, hdst]
    exact hN _ _ _ hf
theorem core_ok0 {ops : Array Oper} {p : POp} {K : ASt → Prop} {N : Act → World → Prop} {Q : Exit → Act → World → Prop} (h : FR w0 S n st β a w) (hok : okOper0 P n ops o p = true) (hK : opCore P st p.dst K p.po)
    (hN : ∀ st' β' a' w', FR w0 S n st' β' a' w' → K st' → N a' w') : o.wp P a w N Q := by
  simp only [okOper0, Bool.and_eq_true] at hok
  obtain ⟨⟨_, hd⟩, hpo⟩ := hok
  have hdst : (o.dst = some p.dst ∧ n.In p.dst ∧ ∀ t p x, o.op ≠ .store t p x) ∨ (o.dst = none ∧ (∃ t p x, o.op = .store t p x)) := by
    cases hq : o.dst with
    | none => rw [hq] at hd; simp only [Bool.and_eq_true] at hd; exact .inr ⟨rfl, store_of hd.1⟩
    | some d =>
      rw [hq] at hd
      simp only [Bool.and_eq_true, beq_iff_eq, decide_eq_true_eq, Bool.not_eq_true'] at hd
      obtain ⟨⟨rfl, h2⟩, h3⟩ := hd
      exact .inl ⟨rfl, h2, fun t p x e => by rw [e] at h3; cases h3⟩
  have eff : ∀ {po}, okEff P o.op po = true → (ev st p.dst po).1 → K (ev st p.dst po).2 → o.wp P a w N Q := fun {po} h1 h2 h3 => wp_does (eff_ok h h1 hdst h2) fun β' a' w' hf => hN _ _ _ _ hf h3
  have some_of : (∀ t p x, o.op ≠ .store t p x) → o.dst = some p.dst ∧ n.In p.dst := fun hne => by
    rcases hdst with ⟨h1, h2, _⟩ | ⟨_, t, q, x, h3⟩
    · exact ⟨h1, h2⟩
    · exact absurd h3 (hne _ _ _)
  have look : ∀ {po}, okLook P o.op po = true → (st p.dst).isHome = false ∧ (hv st po).1 ∧ K (st.put p.dst (hv st po).2) → o.wp P a w N Q := fun {po} h1 h2 => by
    obtain ⟨e1, e2⟩ := some_of fun t p x e => by rw [e] at h1; simp [okLook] at h1
    exact wp_looks h (look_ok h h1 h2.2.1) h2.1 e2 e1 fun β' a' w' hf => hN _ _ _ _ hf h2.2.2
  have make : ∀ {po}, okMake P o.op po = true → (st p.dst).isHome = false ∧ (hv st po).1 ∧ K (st.put p.dst (hv st po).2) → o.wp P a w N Q := fun {po} h1 h2 => by
    obtain ⟨e1, e2⟩ := some_of fun t p x e => by rw [e] at h1; simp [okMake] at h1
    exact wp_makes (make_ok h h1 h2.2.1 h2.1 e2) e1 fun β' a' w' hf => hN _ _ _ _ hf h2.2.2
  revert hpo hK
  cases hp : p.po <;> simp only [okPO, opCore] <;> intro hK hpo
  case call f args =>
    obtain ⟨res, h1, h2, h3, h4⟩ := hK
    obtain ⟨e1, e2⟩ := some_of fun t p x e => by rw [e] at hpo; simp [okCall] at hpo
    exact wp_called (call_ok h hpo h1 h2 h3 e2) e1 fun β' a' w' hf => hN _ _ _ _ hf h4
  case callv x args =>
    obtain ⟨f, ds, res, h0, hf0, h1, h2, h3, h4⟩ := hK
    obtain ⟨e1, e2⟩ := some_of fun t p x e => by rw [e] at hpo; simp [okCallv] at hpo
    exact wp_called (callv_ok h hpo h0 hf0 h1 h2 h3 e2) e1 fun β' a' w' hf => hN _ _ _ _ hf h4
  case callc x args =>
    obtain ⟨f, cs, res, h0, hf0, h1, h2, h3, h4⟩ := hK
    obtain ⟨e1, e2⟩ := some_of fun t p x e => by rw [e] at hpo; simp [okCallv] at hpo
    exact wp_called (callc_ok h hpo h0 hf0 h1 h2 h3 e2) e1 fun β' a' w' hf => hN _ _ _ _ hf h4
  case callh f args =>
    obtain ⟨g, e, m, xs, res, h1, h2, h3, h4, h5, h6⟩ := hK
    obtain ⟨e1, e2⟩ := some_of fun t p x e => by rw [e] at hpo; simp [okCall] at hpo
    obtain ⟨f', args', hr, hc⟩ := callh_ok h hpo h1 h2 h3 h4 h5 e2
    unfold Oper.wp
    rw [hr, Oper.upon_enter]
    refine hc.mono ?_
    rintro x w' ⟨v, r, β', rfl, hf⟩
    rw [e1]
    exact hN _ _ _ _ hf (h6 r (hf.named (g := g) (e := e) (m := m) (xs := xs) (by rw [put_ne h5, put_same])))
  case apph e m b x y =>
    obtain ⟨g, xs, ys, r, h1, h2, h3, h4, h5, h6, h7, h8, h9⟩ := hK
    obtain ⟨e1, e2⟩ := some_of fun t p x e => by rw [e] at hpo; simp [okEff] at hpo
    generalize ho : o.op = oo at hpo
    unfold okEff at hpo
    split at hpo
    · rename_i he; cases he
    · rename_i he
      cases he
      rw [Bool.and_eq_true] at hpo
      obtain ⟨q1, q2⟩ := hpo
      split at q2
      · rename_i hat
        simp only [Bool.and_eq_true, beq_iff_eq, decide_eq_true_eq] at q2
        obtain ⟨⟨rfl, q3⟩, q4⟩ := q2
        obtain ⟨u, w', β', r', hr, hf⟩ := does_apph ho e2 h q1 hat q3 q4 h1 h2 h3 h4 h5 h6 h7 h8
        unfold Oper.wp
        rw [hr, Oper.upon_value, e1]
        exact hN _ _ _ _ hf (h9 r' (hf.named (g := g) (e := _) (m := m) (xs := xs ++ ys) (by unfold ASt.hold; rw [put_ne h4, put_same])))
      · cases q2
    · rename_i he; cases he
    · rename_i he; cases he
    · cases hpo
  case callx f args =>
    obtain ⟨vs, cs, h1, h2, h3, h4⟩ := hK
    obtain ⟨e1, e2⟩ := some_of fun t p x e => by rw [e] at hpo; simp [okCallx] at hpo
    exact wp_looks h (ext_looks h hpo h1 h2) h3 e2 e1 fun β' a' w' hf => hN _ _ _ _ hf h4
  case callm f args =>
    obtain ⟨e1, e2⟩ := some_of fun t p x e => by rw [e] at hpo; simp [okCall] at hpo
    have gen : ∀ {st'}, CalledS P w0 S n a w o p.dst st' → K st' → o.wp P a w N Q := fun {st'} hc hk => by
      obtain ⟨f, args, hr, hc⟩ := hc
      unfold Oper.wp
      rw [hr, Oper.upon_enter]
      refine hc.mono ?_
      rintro e w' ⟨v, β', rfl, hf⟩
      rw [e1]
      exact hN _ _ _ _ hf hk
    cases args with
    | nil => exact hK.elim
    | cons x r =>
      obtain ⟨hd, hl, hK⟩ := hK
      rcases hK with ⟨k, e, m, xs, res, hx, hk, hc, hK⟩ | ⟨e, m, res, hx, hm, hc, hK⟩ | ⟨k, a1, res, hx, ht, hc, hK⟩ | ⟨res, hx, hc, hK⟩
      · exact gen (take_ok h hpo hx hk hc hl hd e2) hK
      · exact gen (take_ok0 h hpo hx hm hc hl hd e2) hK
      · exact gen (turn_ok h hpo hx ht hc hl hd e2) hK
      · have hl2 : ∀ y ∈ x :: r, (view st y).noLoan = true := fun y hy => by
          rcases List.mem_cons.1 hy with rfl | hy
          · exact hx
          · exact hl y hy
        exact wp_called (call_ok (args := x :: r) h hpo hc (.inl hl2) hd e2) e1 fun β' a' w' hf => hN _ _ _ _ hf hK
  case callt f args avoid =>
    obtain ⟨e1, e2⟩ := some_of fun t p x e => by rw [e] at hpo; simp [okCall] at hpo
    have gen : ∀ {st'}, CalledS P w0 S n a w o p.dst st' → K st' → o.wp P a w N Q := fun {st'} hc hk => by
      obtain ⟨f, args, hr, hc⟩ := hc
      unfold Oper.wp
      rw [hr, Oper.upon_enter]
      refine hc.mono ?_
      rintro e w' ⟨v, β', rfl, hf⟩
      rw [e1]
      exact hN _ _ _ _ hf hk
    cases args with
    | nil => exact hK.elim
    | cons x r =>
      obtain ⟨hd, hl, hK⟩ := hK
      rcases hK with ⟨k, e, m, xs, res, hx, hk, _, hc, hK⟩ | ⟨e, m, res, hx, hm, hc, hK⟩
      · exact gen (take_ok h hpo hx hk hc hl hd e2) hK
      · exact gen (take_ok0 h hpo hx hm hc hl hd e2) hK
  case eqnil n x =>
    obtain ⟨xs, h1, h2, h3⟩ := hK
    obtain ⟨e1, e2⟩ := some_of fun t p x e => by rw [e] at hpo; simp [okNil] at hpo
    generalize ho : o.op = oo at hpo
    unfold okNil at hpo
    split at hpo
    · rename_i op t y _ n' x' he
      cases he
      simp only [Bool.and_eq_true, decide_eq_true_eq] at hpo
      obtain ⟨⟨hop, ht⟩, hx⟩ := hpo
      obtain ⟨e, hu⟩ : ∃ e, P.underlying t = some (.slice e) := by
        unfold sliceAny at ht
        split at ht
        · exact ⟨_, by assumption⟩
        · cases ht
      obtain ⟨A, c, hA, _, _, hne⟩ := row_ok h (view_ok h hx) h1
      have hb : xs ≠ [] → A.isNone = false := fun hq => by
        obtain ⟨b, off, m, f, rfl, _⟩ := hne hq
        rfl
      have hnil : a.eval (.const (.slice none 0 0)) = .slice none 0 0 := rfl
      refine wp_looks (av := .val (.bool (if n = true then !A.isNone else A.isNone))) h ⟨.bool (if n = true then !A.isNone else A.isNone), ?_, Rel.val _⟩ h2 e2 e1 fun β' a' w' hf => hN _ _ _ _ hf (h3 _ hb)
      subst hop
      simp only [execOp, ho, hA, hnil]
      cases n
      · have hr := fun w => Lib.run_eql_slice_nil (P := P) w t e A xs.length c 0 0 hu
        simp [eqGuard, hr]
      · have hr := fun w => _root_.Go.run_neq_slice_nil (P := P) w t e A xs.length c hu
        simp [eqGuard, hr]
    · cases hpo
  case asg => exact eff hpo hK.1 hK.2
  case app => exact eff hpo hK.1 hK.2
  case appa => exact eff hpo hK.2.1 hK.2.2
  case store => exact eff hpo hK.1 hK.2
  case stores => exact eff hpo hK.1 hK.2
  case alloc => exact make hpo hK
  case box => exact make hpo hK
  case boxs => exact make hpo hK
  case row => exact make hpo hK
  case rowr => exact make hpo hK
  case mk => exact make hpo hK
  all_goals exact look hpo hK
theorem put_self {s : Nat} {av : AV} (h : st s = av) : st.put s av = st := by
  funext k
  by_cases hk : k = s
  · subst hk; rw [put_same, h]
  · rw [put_ne hk]
/-- Whether a guarded operation is carried out. -/
theorem wanted_ok {ops : Array Oper} {g : Option (Nat × Bool)} {s : Nat} {f : Bool} {v : Value} (h : FR w0 S n st β a w) (hg : okGuard ops g (some (s, f)) = true) (hgo : o.guard = g) (hs : st s = .val v) : Region.wanted o (yielded ops a.tmps) = true ↔ v = .bool f := by
  subst hgo
  unfold okGuard at hg
  split at hg
  · cases ‹some (s, f) = none›
  · rename_i j f' s' f'' hq he
    cases he
    rw [Bool.and_eq_true, beq_iff_eq] at hg
    obtain ⟨rfl, hg⟩ := hg
    split at hg
    · rename_i o' ho'
      split at hg
      · rename_i d hd
        rw [beq_iff_eq] at hg
        subst hg
        have hv := h.slot d
        rw [hs] at hv
        have hv' : a.tmps.getD d undef = v := by
          have : Rel w (Imm S w0 w β) (.val v) (a.tmps.getD d undef) := hv
          revert this; generalize a.tmps.getD d undef = q; intro this; cases this; rfl
        rw [Array.getD_eq_getD_getElem?] at hv'
        simp only [Region.wanted, hq, yielded, ho', Option.bind_some, hd]
        cases hq2 : a.tmps[d]? with
        | none =>
          rw [hq2] at hv'
          simp only [Option.getD_none] at hv'
          subst hv'
          simp [undef]
        | some u =>
          rw [hq2] at hv'
          simp only [Option.getD_some] at hv'
          subst hv'
          cases u <;> simp
      · cases hg
    · cases hg
  · cases hg
theorem step_ok0 {ops : Array Oper} {p : POp} {K : ASt → Prop} {N : Act → World → Prop} {Q : Exit → Act → World → Prop} (h : FR w0 S n st β a w) (hok : okOper0 P n ops o p = true) (hK : opStep P st p K)
    (hN : ∀ st' β' a' w', FR w0 S n st' β' a' w' → K st' → N a' w') : if Region.wanted o (yielded ops a.tmps) then o.wp P a w N Q else N (a.put o.dst undef) w := by
  have hok2 := hok
  simp only [okOper0, Bool.and_eq_true] at hok2
  obtain ⟨⟨hg, hd⟩, _⟩ := hok2
  unfold opStep at hK
  cases hpg : p.guard with
  | none =>
    rw [hpg] at hg hK
    have : o.guard = none := by
      unfold okGuard at hg; split at hg
      · assumption
      · rename_i he; cases he
      · cases hg
    rw [if_pos (by simp [Region.wanted, this])]
    exact core_ok0 h hok hK hN
  | some sf =>
    obtain ⟨s, f⟩ := sf
    rw [hpg] at hg hK
    obtain ⟨v, hs, h1, h2⟩ := hK
    have hw := wanted_ok h hg rfl hs
    by_cases hbf : v = .bool f
    · rw [if_pos (hw.2 hbf)]
      exact core_ok0 h hok (h1 hbf) hN
    · rw [if_neg (fun e => hbf (hw.1 e))]
      obtain ⟨q1, q2⟩ := h2 hbf
      cases hq : o.dst with
      | none =>
        rw [hq] at hd
        simp only [Bool.and_eq_true] at hd
        obtain ⟨_, hd2⟩ := hd
        exfalso
        cases hgo : o.guard with
        | none => rw [hgo] at hg; simp [okGuard] at hg
        | some x => rw [hgo] at hd2; cases hd2
      | some d =>
        rw [hq] at hd
        simp only [Bool.and_eq_true, beq_iff_eq, decide_eq_true_eq] at hd
        obtain ⟨⟨rfl, hdn⟩, _⟩ := hd
        exact hN _ _ _ _ (h.put_imm q1 hdn (Rel.val undef)) q2
theorem step_ok {ops : Array Oper} {p : POp} {K : ASt → Prop} {N : Act → World → Prop} {Q : Exit → Act → World → Prop} (h : FR w0 S n st β a w) (hok : okOper P n ops o p = true) (hK : opStep P st p K)
    (hN : ∀ st' β' a' w', FR w0 S n st' β' a' w' → K st' → N a' w') : if Region.wanted o (yielded ops a.tmps) then o.wp P a w N Q else N (a.put o.dst undef) w := by
  unfold okOper at hok
  rw [Bool.or_eq_true] at hok
  rcases hok with hok | hok
  · rw [Bool.and_eq_true] at hok
    exfalso
    obtain ⟨d, po, g⟩ := p
    have hnv := hok.1
    unfold isNever at hnv
    split at hnv
    · rename_i hq
      cases hq
      exact hK.2.1
    · cases hnv
  · exact step_ok0 h hok hK hN
theorem list_ok {ops : Array Oper} {K : ASt → Prop} {Q : Exit → Act → World → Prop} (hQ : ∀ st' β' a' w', FR w0 S n st' β' a' w' → K st' → Q .normal a' w') : ∀ (os : List Oper) (ps : List POp) (st : ASt) (β : Bt) (a : Act) (w : World), okOps P n ops os ps = true → FR w0 S n st β a w → opsWP P ps K st → wpList P ops Q os a w
  | [], [], _, _, _, _, _, h, hK => hQ _ _ _ _ h hK
  | [], _ :: _, _, _, _, _, h, _, _ => by simp [okOps] at h
  | _ :: _, [], _, _, _, _, h, _, _ => by simp [okOps] at h
  | o :: os, p :: ps, st, β, a, w, hok, h, hK => by
    simp only [okOps, Bool.and_eq_true] at hok
    refine wpList_step fun N hN => ?_
    exact step_ok h hok.1 hK fun st' β' a' w' hf hk => hN _ _ (list_ok hQ os ps st' β' a' w' hok.2 hf hk)
end
end Go.Proofs.Ytpecmhdepggnoaa
