/- The machine on data: statements, loops, whole functions. -/
import Derived.Test.YtpecmhdepggnoaaDmM
import Derived.Deep.LoopGhost
namespace Go.Proofs.Ytpecmhdepggnoaa
open Go.RowKit

inductive PCode where
  | skip
  | ops (l : List POp)
  | opw (l : List POp)
  | oph (l : List POp)
  | seq (a b : PCode)
  | cond (c : Opd) (a b : PCode)
  | block (id : Nat) (c : PCode)
  | loop (c : PCode)
  | exit (id : Nat)
  | ret
inductive PX where
  | normal
  | exit (id : Nat)
  | ret
def okCode (P : Program) (n : Lim) : Code → PCode → Bool
  | .skip, .skip => true
  | .region _ ops draw, .ops l => okOps P n ops ops.toList l && (!draw || drawOK ops l)
  | .region _ ops draw, .opw l => okOps P n ops ops.toList l && (!draw || drawOK ops l)
  | .region _ ops draw, .oph l => okOps P n ops ops.toList l && (!draw || drawOK ops l)
  | .seq a b, .seq a' b' => okCode P n a a' && okCode P n b b'
  | .cond c a b, .cond c' a' b' => okOpd c c' && okCode P n a a' && okCode P n b b'
  | .block i c, .block i' c' => i == i' && okCode P n c c'
  | .loop c, .loop c' => okCode P n c c'
  | .exit i, .exit i' => i == i'
  | .ret, .ret => true
  | _, _ => false

def seqQ (k : ASt → Prop) (Q : PX → ASt → Prop) : PX → ASt → Prop
  | .normal, st => k st
  | x, st => Q x st
def blkQ (id : Nat) (Q : PX → ASt → Prop) : PX → ASt → Prop
  | .exit i, st => if i = id then Q .normal st else Q (.exit i) st
  | x, st => Q x st
/-- The slot of a test, where it is known. -/
def lit (st : ASt) (c : Opd) (b : Bool) : ASt := match c with
  | .t k => st.put k (.val (.bool b))
  | _ => st
def awp (P : Program) : PCode → (PX → ASt → Prop) → ASt → Prop
  | .skip, Q, st => Q .normal st
  | .ops l, Q, st => opsWP P l (Q .normal) st
  | .opw l, Q, st => ∃ st', Weak st st' ∧ opsWP P l (Q .normal) st'
  | .oph l, Q, st => ∃ F : Value → ASt, WeakV st F ∧ ∀ r : Value, r.oneCell' = true → opsWP P l (Q .normal) (F r)
  | .seq a b, Q, st => awp P a (seqQ (awp P b Q) Q) st
  | .cond c a b, Q, st => ∃ t, view st c = .val (.bool t) ∧ (t = true → awp P a Q (lit st c true)) ∧ (t = false → awp P b Q (lit st c false))
  | .block id c, Q, st => awp P c (blkQ id Q) st
  | .loop c, Q, st => ∃ I : ASt → Nat → Prop, (∃ st0 m0, Weak st st0 ∧ I st0 m0) ∧ ∀ st' m, I st' m → awp P c (seqQ (fun st'' => ∃ st3 m3, Weak st'' st3 ∧ I st3 m3 ∧ m3 < m) Q) st'
  | .exit id, Q, st => Q (.exit id) st
  | .ret, Q, st => Q .ret st

def PX.is : PX → Exit
  | .normal => .normal
  | .exit id => .exit id
  | .ret => .ret

section
variable {P : Program} {w0 : Ent} {S : Nat → Prop} {n : Lim}
/-- What is said of the slots, said of a frame. -/
def Up (w0 : Ent) (S : Nat → Prop) (n : Lim) (Q : PX → ASt → Prop) (e : Exit) (a : Act) (w : World) : Prop := ∃ x st β, e = PX.is x ∧ FR w0 S n st β a w ∧ Q x st
theorem lit_self {st : ASt} {c : Opd} {t : Bool} (h : view st c = .val (.bool t)) : lit st c t = st := by
  cases c with
  | t k =>
    simp only [view] at h
    refine put_self ?_
    cases hq : st k <;> rw [hq] at h <;> first | exact h | cases h
  | _ => rfl
theorem awp_ok (hm : P.follows .mixedOrders = true) : ∀ (c : Code) (pc : PCode) (Q : PX → ASt → Prop) (st : ASt) (β : Bt) (a : Act) (w : World), okCode P n c pc = true → awp P pc Q st → FR w0 S n st β a w → c.wp P (Up w0 S n Q) a w := by
  intro c
  induction c with
  | skip =>
    intro pc Q st β a w hok h hf
    cases pc <;> simp only [okCode] at hok <;> first | (cases hok; done) | skip
    exact wp_skip ⟨.normal, st, β, rfl, hf, h⟩
  | region id ops draw =>
    intro pc Q st β a w hok h hf
    cases pc <;> simp only [okCode] at hok <;> first | (cases hok; done) | skip
    · rename_i l
      rw [Bool.and_eq_true] at hok
      cases draw with
      | false =>
        have hl := list_ok (Q := Up w0 S n Q) (fun st' β' a' w' hf' hk => ⟨.normal, st', β', rfl, hf', hk⟩) ops.toList l st β a w hok.1 hf h
        exact wp_region_list hl
      | true =>
        exact region_draw hm hok.1 (by simpa using hok.2) hf h fun st' β' a' w' hf' hk => ⟨.normal, st', β', rfl, hf', hk⟩
    · rename_i l
      obtain ⟨st0, hw0, h⟩ := h
      obtain ⟨β0, hf0⟩ := hw0 _ _ _ _ _ _ hf
      rw [Bool.and_eq_true] at hok
      cases draw with
      | false =>
        have hl := list_ok (Q := Up w0 S n Q) (fun st' β' a' w' hf' hk => ⟨.normal, st', β', rfl, hf', hk⟩) ops.toList l st0 β0 a w hok.1 hf0 h
        exact wp_region_list hl
      | true =>
        exact region_draw hm hok.1 (by simpa using hok.2) hf0 h fun st' β' a' w' hf' hk => ⟨.normal, st', β', rfl, hf', hk⟩
    · rename_i l
      obtain ⟨F, hw0, h⟩ := h
      obtain ⟨r, β0, hr1, hf0⟩ := hw0 _ _ _ _ _ _ hf
      rw [Bool.and_eq_true] at hok
      cases draw with
      | false =>
        have hl := list_ok (Q := Up w0 S n Q) (fun st' β' a' w' hf' hk => ⟨.normal, st', β', rfl, hf', hk⟩) ops.toList l (F r) β0 a w hok.1 hf0 (h r hr1)
        exact wp_region_list hl
      | true =>
        exact region_draw hm hok.1 (by simpa using hok.2) hf0 (h r hr1) fun st' β' a' w' hf' hk => ⟨.normal, st', β', rfl, hf', hk⟩
  | seq x y ihx ihy =>
    intro pc Q st β a w hok h hf
    cases pc <;> simp only [okCode] at hok <;> first | (cases hok; done) | skip
    rw [Bool.and_eq_true] at hok
    refine wp_seq (Code.wp_mono ?_ (ihx _ _ st β a w hok.1 h hf))
    rintro e a' w' ⟨z, st', β', rfl, hf', hq⟩
    cases z with
    | normal => exact ihy _ _ st' β' a' w' hok.2 hq hf'
    | exit id => exact ⟨.exit id, st', β', rfl, hf', hq⟩
    | ret => exact ⟨.ret, st', β', rfl, hf', hq⟩
  | cond c x y ihx ihy =>
    intro pc Q st β a w hok h hf
    cases pc <;> simp only [okCode] at hok <;> first | (cases hok; done) | skip
    rename_i c' x' y'
    simp only [Bool.and_eq_true] at hok
    obtain ⟨t, hv, h1, h2⟩ := h
    have hc := vval hf hok.1.1 hv
    refine wp_cond_split hc (fun e => ?_) (fun e => ?_)
    · subst e
      have := h1 rfl
      rw [lit_self hv] at this
      exact ihx _ _ st β a w hok.1.2 this hf
    · subst e
      have := h2 rfl
      rw [lit_self hv] at this
      exact ihy _ _ st β a w hok.2 this hf
  | block id c ih =>
    intro pc Q st β a w hok h hf
    cases pc <;> simp only [okCode] at hok <;> first | (cases hok; done) | skip
    rename_i id' c'
    simp only [Bool.and_eq_true, beq_iff_eq] at hok
    obtain ⟨rfl, hok⟩ := hok
    refine wp_block (Code.wp_mono ?_ (ih _ _ st β a w hok h hf))
    rintro e a' w' ⟨z, st', β', rfl, hf', hq⟩
    cases z with
    | normal => exact ⟨.normal, st', β', rfl, hf', hq⟩
    | exit i =>
      simp only [blkQ] at hq
      simp only [PX.is, Exit.inBlock]
      by_cases hi : i = id
      · rw [if_pos hi] at hq ⊢; exact ⟨.normal, st', β', rfl, hf', hq⟩
      · rw [if_neg hi] at hq ⊢; exact ⟨.exit i, st', β', rfl, hf', hq⟩
    | ret => exact ⟨.ret, st', β', rfl, hf', hq⟩
  | loop c ih =>
    intro pc Q st β a w hok h hf
    cases pc <;> simp only [okCode] at hok <;> first | (cases hok; done) | skip
    rename_i c'
    obtain ⟨I, ⟨st0, m0, hw, hI⟩, hround⟩ := h
    obtain ⟨β0, hf0⟩ := hw _ _ _ _ _ _ hf
    refine wp_loop_ghost (fun m a w => ∃ st β, FR w0 S n st β a w ∧ I st m) m0 ⟨st0, β0, hf0, hI⟩ ?_
    rintro m a' w' ⟨st', β', hf', hI'⟩
    refine Code.wp_mono ?_ (ih _ _ st' β' a' w' hok (hround st' m hI') hf')
    rintro e a2 w2 ⟨z, st2, β2, rfl, hf2, hq⟩
    cases z with
    | normal =>
      obtain ⟨st3, m3, hw3, hI3, hlt⟩ := hq
      obtain ⟨β3, hf3⟩ := hw3 _ _ _ _ _ _ hf2
      exact ⟨m3, hlt, st3, β3, hf3, hI3⟩
    | exit id => exact ⟨.exit id, st2, β2, rfl, hf2, hq⟩
    | ret => exact ⟨.ret, st2, β2, rfl, hf2, hq⟩
  | exit id =>
    intro pc Q st β a w hok h hf
    cases pc <;> simp only [okCode] at hok <;> first | (cases hok; done) | skip
    rw [beq_iff_eq] at hok
    subst hok
    exact wp_exit ⟨.exit id, st, β, rfl, hf, h⟩
  | ret =>
    intro pc Q st β a w hok h hf
    cases pc <;> simp only [okCode] at hok <;> first | (cases hok; done) | skip
    exact wp_ret ⟨.ret, st, β, rfl, hf, h⟩
  | _ =>
    intro pc Q st β a w hok h hf
    cases pc <;> simp only [okCode] at hok <;> cases hok

/-! ### A whole function -/
/-- A result: a slot's value; a variable's cells; a variable's one cell. -/
inductive RV where
  | t (r : Nat)
  | c (r n : Nat)
  | l (r : Nat)
def RV.pr (st : ASt) : RV → Prop × AV
  | .t r => (True, argv st (view st (.t r)))
  | .c r n => hv st (.loads n (.t r))
  | .l r => hv st (.load (.t r))
def RV.ok (P : Program) : RV → ResultVar → Bool
  | .t r, .tmp q => q == r
  | .c r n, .cell q ty => q == r && (P.underlying ty).isSome && rowT P ty && decide ((P.info? ty).map (·.size) = some n)
  | .l r, .cell q ty => q == r && !rowT P ty
  | _, _ => false
def okRes (P : Program) : List ResultVar → List RV → Bool
  | [], [] => true
  | x :: r, y :: s => y.ok P x && okRes P r s
  | _, _ => false
/-- What is handed back, out of the result's slots. -/
def resAV (st : ASt) (rs : List RV) : AV := match rs with
  | [r] => (r.pr st).2
  | rs => .tup (rs.map fun r => (r.pr st).2)
def Fin (st : ASt) (rs : List RV) : AV → Prop
  | .own e m xs => ∃ r, rs = [.t r] ∧ ((∃ d, view st (.t r) = .alias d ∧ st d = .own e m xs) ∨ (st r = .nilsl ∧ xs = [] ∧ 0 < m))
  | res => (∀ r ∈ rs, (r.pr st).1) ∧ resAV st rs = res
def initSt (args : List AV) : ASt := fun k => args.getD k .junk
theorem ownBlock_home {w : World} {st : ASt} {β : Bt} {a : Act} (h : FR w0 S n st β a w) {d e m : Nat} {xs : List (List AV)} (hd : st d = .own e m xs) : (a.tmps.getD d undef).ownBlock = β d := by
  have hs := h.slot d
  rw [hd] at hs
  obtain ⟨_, _, _, _, hb, _⟩ := hs
  exact hb
theorem res_load {t : TypeId} {r : Nat} {w : World} {st : ASt} {β : Bt} {a : Act} (h : FR w0 S n st β a w) (ht : rowT P t = false) (hp : (hv st (.load (.t r))).1) : ∃ u, ((asAddr (a.tmps.getD r undef)) >>= loadVar t).run P w = .ok u w ∧ Rel w (Imm S w0 w β) (hv st (.load (.t r))).2 u := by
  revert hp
  simp only [hv]
  split
  · rename_i cs q h1
    intro hp
    obtain ⟨b, off, f, e1, hb, hcell, hrel⟩ := cells_ok h (view_ok h (x := .tmp r) (y := .t r) (by simp [okOpd])) h1
    have e1' : a.tmps.getD r undef = .pointer (some ⟨b, off + q, none⟩) := e1
    obtain ⟨d, hd, hrow⟩ := row_T ht
    refine ⟨f q, ?_, ?_⟩
    · have hr : (loadVar t ⟨b, off + q, none⟩).run P w = .ok (f q) w := by
        cases d <;> first | (simp at hrow; done) | simp [loadVar, isAgg, run_underlying hd, (hcell q hp).1]
      rw [e1']
      simp [asAddr, hr]
    · have := hrel q (cs.getD q .junk) (by rw [List.getD_eq_getElem?_getD, List.getElem?_eq_getElem hp]; rfl)
      revert this
      cases cs.getD q .junk <;> intro this <;> first | exact this | cases this
  · exact fun h => h.elim
theorem res_loads {t : TypeId} {r m : Nat} {w : World} {st : ASt} {β : Bt} {a : Act} (h : FR w0 S n st β a w) (hs : (P.underlying t).isSome = true) (ht : rowT P t = true) (hm : (P.info? t).map (·.size) = some m) (hp : (hv st (.loads m (.t r))).1) : ∃ u, ((asAddr (a.tmps.getD r undef)) >>= loadVar t).run P w = .ok u w ∧ Rel w (Imm S w0 w β) (hv st (.loads m (.t r))).2 u := by
  revert hp
  simp only [hv]
  split
  · rename_i cs q h1
    intro hp
    obtain ⟨b, off, f, e1, hb, hcell, hrel⟩ := cells_ok h (view_ok h (x := .tmp r) (y := .t r) (by simp [okOpd])) h1
    have e1' : a.tmps.getD r undef = .pointer (some ⟨b, off + q, none⟩) := e1
    obtain ⟨d, hd⟩ := Option.isSome_iff_exists.mp hs
    have hrow : d.isRow = true := by unfold rowT at ht; rw [hd] at ht; exact ht
    have hl : ((List.range m).map fun j => f (q + j)).length = m := by simp
    refine ⟨.agg ((List.range m).map fun j => f (q + j)).toArray, ?_, ?_⟩
    · have := run_loadVar_mid (P := P) w b (off + q) t ((List.range m).map fun j => f (q + j)) d (fun j v hj => by
        rw [List.getElem?_map, Option.map_eq_some_iff] at hj
        obtain ⟨i, hi, rfl⟩ := hj
        have hjm : j < m := by have := (List.getElem?_eq_some_iff.1 hi).1; simpa using this
        have : i = j := by rw [List.getElem?_range hjm] at hi; injection hi with hi; exact hi.symm
        subst this
        rw [Nat.add_assoc]; exact (hcell (q + i) (by omega)).1) hd hrow (by rw [hl]; exact hm)
      rw [e1']
      simp [asAddr, this]
    · refine Rel.agg _ _ (by simp; omega) (fun u hu => ?_) (fun j av hj => ?_)
      · simp only [List.mem_map, List.mem_range] at hu
        obtain ⟨i, hi, rfl⟩ := hu
        exact (hcell (q + i) (by omega)).2
      · rw [List.getElem?_take, List.getElem?_drop] at hj
        split at hj
        · rename_i hjm
          have := hrel _ _ hj
          simpa [Array.getD_eq_getD_getElem?, hjm] using this
        · cases hj
  · exact fun h => h.elim
/-- What a function hands back. -/
def EndRel (w0 : Ent) (S : Nat → Prop) (w' : World) (v : Value) : AV → Prop
  | .own e m xs => (∀ g, v.ownBlock = some g → w0.N g ∧ g < w'.heap.size) ∧ OwnAt w' w0.base (fun b => S b ∨ (w0.N b ∧ b < w'.heap.size ∧ v.ownBlock ≠ some b)) e m xs v v.ownBlock
  | av => Rel w' (fun b => S b ∨ (w0.N b ∧ b < w'.heap.size)) av v
/-- The slots at a function's beginning. -/
def tmps0 (n : Nat) (vs : List Value) : Array Value := vs.toArray ++ Array.replicate (n - vs.toArray.size) undef
theorem tmps0_at (n : Nat) (vs : List Value) (k : Nat) : (tmps0 n vs).getD k undef = vs.getD k undef := by
  simp only [tmps0, Array.getD_eq_getD_getElem?, Array.getElem?_append]
  split
  · rename_i hk; simp [List.getD_eq_getElem?_getD]
  · rename_i hk
    have : vs[k]? = none := List.getElem?_eq_none (by simpa using hk)
    rw [List.getD_eq_getElem?_getD, this]
    simp only [Array.getElem?_replicate]
    split <;> rfl
theorem tmps0_size {n : Nat} {vs : List Value} (h : vs.length ≤ n) : (tmps0 n vs).size = n := by simp [tmps0]; omega
theorem rel_slot {w : World} {base : Nat} {I : Nat → Prop} {st : ASt} {β : Bt} {tm : Array Value} {av : AV} {k : Nat} (h : Rel w I av (tm.getD k undef)) : SlotRel w base I st β tm av k := by
  revert h
  cases av <;> simp only [SlotRel] <;> intro hrel <;> first | exact hrel | cases hrel
theorem code_of {f : FuncId} {fn : Func} {body : Code} {pc : PCode} {rs : List RV} {args : List AV} {res : AV} {w0 : Ent} {S : Nat → Prop} {lo : Nat} {β0 : Bt} {vs : List Value} {Q : PX → ASt → Prop} (hm : P.follows .mixedOrders = true) (hf : P.funcs[f]? = some fn) (hb : fn.body = some body) (hr : okRes P fn.results.toList rs = true)
    (hok : okCode P ⟨fn.ntmps, lo⟩ body pc = true) (hQ : ∀ x st, Q x st → (x = .normal ∨ x = .ret) ∧ Fin st rs res) (h : awp P pc Q (initSt args)) (hF : FR w0 S ⟨fn.ntmps, lo⟩ (initSt args) β0 { tmps := tmps0 fn.ntmps vs, defers := [] } w0.w) :
    Calls P f vs.toArray w0.w fun e w' => ∃ v x st β a', e = .returned v ∧ FR w0 S ⟨fn.ntmps, lo⟩ st β a' w' ∧ Q x st ∧ EndRel w0 S w' v res := by
  refine calls_of_wp hf hb ?_
  refine Code.wp_mono ?_ (awp_ok hm body pc _ _ _ _ w0.w hok h hF)
  rintro e a' w' ⟨x, st, β, rfl, hf', hq⟩
  obtain ⟨hx, hfin⟩ := hQ x st hq
  have up : ∀ b, Live S w0 w' β b → S b ∨ (w0.N b ∧ b < w'.heap.size) := fun b hb => by
    rcases hb with (hb | hb) | ⟨k, hk⟩
    · exact .inl hb
    · exact .inr ⟨hb.1, hb.2.1⟩
    · exact .inr (hf'.home k b hk).2
  have one : ∀ r, Rel w' (fun b => S b ∨ (w0.N b ∧ b < w'.heap.size)) (argv st (view st (.t r))) (a'.tmps.getD r undef) := fun r =>
    (argv_rel hf' (view_ok hf' (x := .tmp r) (y := .t r) (by simp [okOpd]))).1.mono up (fun _ _ _ => rfl)
  have hall : ∀ r ∈ rs, (r.pr st).1 := by
    revert hfin
    cases res <;> simp only [Fin] <;> intro hfin
    case own e m xs =>
      obtain ⟨r, rfl, _⟩ := hfin
      simp [RV.pr]
    all_goals exact hfin.1
  have hrun : ∃ us : List Value, us.length = rs.length ∧ (results fn a'.tmps).run P w' = .ok (if h : us.toArray.size = 1 then us.toArray[0] else .tuple us.toArray) w' ∧
      ∀ j r, rs[j]? = some r → Rel w' (fun b => S b ∨ (w0.N b ∧ b < w'.heap.size)) (r.pr st).2 (us.getD j undef) ∧ ∀ q, r = .t q → us.getD j undef = a'.tmps.getD q undef := by
    have key : ∀ (g : ResultVar → Sem Value), (∀ t, g (.tmp t) = pure (a'.tmps.getD t undef)) → (∀ t ty, g (.cell t ty) = (asAddr (a'.tmps.getD t undef) >>= loadVar ty)) → ∀ (l : List ResultVar) (rs : List RV), okRes P l rs = true → (∀ r ∈ rs, (r.pr st).1) →
        ∃ us : List Value, us.length = rs.length ∧ (l.mapM g).run P w' = .ok us w' ∧ ∀ j r, rs[j]? = some r → Rel w' (fun b => S b ∨ (w0.N b ∧ b < w'.heap.size)) (r.pr st).2 (us.getD j undef) ∧ ∀ q, r = .t q → us.getD j undef = a'.tmps.getD q undef := by
      intro g hg1 hg2 l
      induction l with
      | nil =>
        intro rs hk _
        cases rs with
        | nil => exact ⟨[], rfl, rfl, fun j r hj => by simp at hj⟩
        | cons r s => simp [okRes] at hk
      | cons x l ih =>
        intro rs hk hall
        cases rs with
        | nil => simp [okRes] at hk
        | cons r s =>
          simp only [okRes, Bool.and_eq_true] at hk
          obtain ⟨us, u1, u2, u3⟩ := ih s hk.2 fun r hr => hall r (by simp [hr])
          have hr := hall r (by simp)
          have : ∃ u, (g x).run P w' = .ok u w' ∧ Rel w' (fun b => S b ∨ (w0.N b ∧ b < w'.heap.size)) (r.pr st).2 u ∧ ∀ q, r = .t q → u = a'.tmps.getD q undef := by
            have imm : ∀ b, Imm S w0 w' β b → S b ∨ (w0.N b ∧ b < w'.heap.size) := fun b hb => by
              rcases hb with hb | hb
              · exact .inl hb
              · exact .inr ⟨hb.1, hb.2.1⟩
            have hk1 := hk.1
            unfold RV.ok at hk1
            split at hk1
            · rw [beq_iff_eq] at hk1; subst hk1
              exact ⟨_, by rw [hg1]; rfl, one _, fun q hq => by cases hq; rfl⟩
            · simp only [Bool.and_eq_true, beq_iff_eq, decide_eq_true_eq] at hk1
              obtain ⟨⟨⟨rfl, k1⟩, k2⟩, k3⟩ := hk1
              obtain ⟨u, v1, v2⟩ := res_loads hf' k1 k2 k3 hr
              exact ⟨u, by rw [hg2]; exact v1, v2.mono imm (fun _ _ _ => rfl), fun q hq => by cases hq⟩
            · simp only [Bool.and_eq_true, beq_iff_eq, Bool.not_eq_true'] at hk1
              obtain ⟨rfl, k1⟩ := hk1
              obtain ⟨u, v1, v2⟩ := res_load hf' k1 hr
              exact ⟨u, by rw [hg2]; exact v1, v2.mono imm (fun _ _ _ => rfl), fun q hq => by cases hq⟩
            · cases hk1
          obtain ⟨u, v1, v2, v3⟩ := this
          refine ⟨u :: us, by simp [u1], by simp [List.mapM_cons, Sem.run_bind, v1, u2], fun j r' hj => ?_⟩
          cases j with
          | zero => simp at hj; subst hj; exact ⟨v2, v3⟩
          | succ j => simpa using u3 j r' (by simpa using hj)
    obtain ⟨us, u1, u2, u3⟩ := key (fun | .tmp t => pure (a'.tmps.getD t undef) | .cell q t => do loadVar t (← asAddr (a'.tmps.getD q undef))) (fun _ => rfl) (fun _ _ => rfl) _ _ hr hall
    refine ⟨us, u1, ?_, u3⟩
    unfold results
    have e : fn.results = fn.results.toList.toArray := by simp
    rw [e, List.mapM_toArray]
    simp only [Sem.run_bind, Sem.run_map]
    exact congrArg (fun r : Result (List Value) => (r.andThen fun zs w' => .ok zs.toArray w').andThen fun zs w' => Sem.run P (pure (if h : zs.size = 1 then zs[0] else Value.tuple zs)) w') u2
  obtain ⟨us, hul, hrun, hus⟩ := hrun
  have hpost : ∃ v, (results fn a'.tmps).run P w' = .ok v w' ∧ EndRel w0 S w' v res := by
    refine ⟨_, hrun, ?_⟩
    have whole : Rel w' (fun b => S b ∨ (w0.N b ∧ b < w'.heap.size)) (resAV st rs) (if h : us.toArray.size = 1 then us.toArray[0] else .tuple us.toArray) := by
      have tup : Rel w' (fun b => S b ∨ (w0.N b ∧ b < w'.heap.size)) (.tup (rs.map fun r => (r.pr st).2)) (.tuple us.toArray) := by
        refine Rel.tup _ _ (by simp [hul]) fun j av hj => ?_
        rw [List.getElem?_map, Option.map_eq_some_iff] at hj
        obtain ⟨r, hr, rfl⟩ := hj
        have := (hus j r hr).1
        simpa [Array.getD_eq_getD_getElem?, List.getD_eq_getElem?_getD] using this
      match rs, hul, hus, tup with
      | [], hul, hus, tup =>
        rw [dif_neg (by simp [hul])]
        exact tup
      | [r], hul, hus, tup =>
        match us, hul, hus with
        | [u], _, hus => exact (hus 0 r rfl).1
      | r :: s :: t, hul, hus, tup =>
        rw [dif_neg (by simp [hul])]
        exact tup
    revert hfin
    cases res <;> simp only [Fin] <;> intro hfin
    case own e m xs =>
      obtain ⟨r, rfl, hfin⟩ := hfin
      have hv0 : (if h : us.toArray.size = 1 then us.toArray[0] else Value.tuple us.toArray) = a'.tmps.getD r undef := by
        match us, hul, hus with
        | [u], _, hus => exact (hus 0 (.t r) rfl).2 r rfl
      rw [hv0]
      simp only [EndRel]
      show (∀ g, (a'.tmps.getD r undef).ownBlock = some g → w0.N g ∧ g < w'.heap.size) ∧ OwnAt w' w0.base (fun b => S b ∨ (w0.N b ∧ b < w'.heap.size ∧ (a'.tmps.getD r undef).ownBlock ≠ some b)) e m xs (a'.tmps.getD r undef) (a'.tmps.getD r undef).ownBlock
      rcases hfin with ⟨d, hv, hd⟩ | ⟨hv, rfl, h0⟩
      · have hvo := view_ok hf' (x := .tmp r) (y := .t r) (by simp [okOpd])
        rw [hv] at hvo
        obtain ⟨_, hvo⟩ := hvo
        have hvo' : a'.tmps.getD r undef = a'.tmps.getD d undef := hvo
        rw [hvo', ownBlock_home hf' hd]
        have hs := hf'.slot d
        rw [hd] at hs
        have hs' : OwnAt w' w0.base (Imm S w0 w' β) e m xs (a'.tmps.getD d undef) (β d) := hs
        refine ⟨fun g hg => (hf'.home d g hg).2, OwnAt.mono (w := w') (fun b hb => by
          rcases hb with hb | hb
          · exact .inl hb
          · exact .inr ⟨hb.1, hb.2.1, hb.2.2 d⟩) (fun _ _ _ => rfl) (fun _ _ => rfl) hs'⟩
      · have hs := hf'.slot r
        rw [hv] at hs
        have hs' : Rel w' (Imm S w0 w' β) .nilsl (a'.tmps.getD r undef) := hs
        have hnil : a'.tmps.getD r undef = .slice none 0 0 := by revert hs'; generalize a'.tmps.getD r undef = q; intro hs'; cases hs'; rfl
        rw [hnil]
        exact ⟨fun g hg => (by cases hg), [], World.ownsRow_nil _ _ _ _, by simp, h0, rfl, by simp, Nat.zero_le _, by simp⟩
    all_goals
      rw [hfin.2] at whole
      exact whole
  obtain ⟨v, h1, h2⟩ := hpost
  rcases hx with rfl | rfl
  · exact ⟨hf'.defers, v, h1, v, _, st, β, a', rfl, hf', hq, h2⟩
  · exact ⟨hf'.defers, v, h1, v, _, st, β, a', rfl, hf', hq, h2⟩
theorem init_rel {w : World} {I : Nat → Prop} {n : Nat} {args : List AV} {vs : List Value} (hvl : vs.length = args.length) (hvr : ∀ (j : Nat) av v, args[j]? = some av → vs[j]? = some v → Rel w I av v) (k : Nat) : Rel w I (args.getD k .junk) ((tmps0 n vs).getD k undef) := by
  rw [tmps0_at, List.getD_eq_getElem?_getD, List.getD_eq_getElem?_getD]
  cases ha : args[k]? with
  | none => exact Rel.junk _
  | some av =>
    have hk : k < vs.length := by rw [hvl]; exact (List.getElem?_eq_some_iff.1 ha).1
    have hv : vs[k]? = some vs[k] := List.getElem?_eq_getElem hk
    rw [hv]
    exact hvr k av _ ha hv
theorem call_of_code {f : FuncId} {fn : Func} {body : Code} {pc : PCode} {rs : List RV} {args : List AV} {res : AV} (hm : P.follows .mixedOrders = true) (hf : P.funcs[f]? = some fn) (hb : fn.body = some body) (hr : okRes P fn.results.toList rs = true)
    (hn : args.length ≤ fn.ntmps) (hok : okCode P ⟨fn.ntmps, 0⟩ body pc = true) (h : awp P pc (fun x st => (x = .normal ∨ x = .ret) ∧ Fin st rs res) (initSt args)) : CallOK P f args res := by
  intro w S vs ht hS hvl hvr
  refine (code_of (w0 := ⟨w, w.heap.size, none, none, ht⟩) (S := S) (β0 := fun _ => none) hm hf hb hr hok (fun _ _ hq => hq) h ?_).mono ?_
  · refine ⟨Past.refl _ _, Nat.le_refl _, fun g hg => (by cases hg), fun b hb => ⟨hS b hb, by simp⟩, tmps0_size (by omega), fun v hv => (by cases hv), rfl, fun k g hg => (by cases hg), fun i j g hg => (by cases hg), fun k => ?_⟩
    exact rel_slot ((init_rel hvl hvr k).mono (fun b hb => .inl hb) (fun _ _ _ => rfl))
  · rintro e w' ⟨v, x, st, β, a', rfl, hf', _, hres⟩
    have hN : ∀ b, Ent.N ⟨w, w.heap.size, none, none, ht⟩ b → w.heap.size ≤ b := fun b hb => hb.resolve_left (by simp)
    refine ⟨v, rfl, hf'.below.below, ?_⟩
    revert hres
    cases res <;> simp only [EndRel, ResRel] <;> intro hres
    case own e m xs => exact OwnAt.mono (w := w') (fun b hb => hb.imp id fun hb => ⟨hN b hb.1, hb.2⟩) (fun _ _ _ => rfl) (fun _ _ => rfl) hres.2
    all_goals exact hres.mono (fun b hb => hb.imp id fun hb => ⟨hN b hb.1, hb.2⟩) (fun _ _ _ => rfl)
/-- A result that is one variable's cells, in which a slice is that nobody else has. -/
theorem callh_of_code {f : FuncId} {fn : Func} {body : Code} {pc : PCode} {q n e m : Nat} {xs : List (List AV)} {args : List AV} {res : Value → AV} (hm : P.follows .mixedOrders = true) (hf : P.funcs[f]? = some fn) (hb : fn.body = some body) (hr : okRes P fn.results.toList [.c q n] = true)
    (hn : args.length ≤ fn.ntmps) (hok : okCode P ⟨fn.ntmps, 0⟩ body pc = true)
    (h : awp P pc (fun x st => (x = .normal ∨ x = .ret) ∧ ∃ g r, st g = .held e m xs r ∧ (hv st (.loads n (.t q))).1 ∧ (hv st (.loads n (.t q))).2 = res r) (initSt args)) : CallH P f args e m xs res := by
  intro w S vs ht hS hvl hvr
  have hF : FR ⟨w, w.heap.size, none, none, ht⟩ S ⟨fn.ntmps, 0⟩ (initSt args) (fun _ => none) { tmps := tmps0 fn.ntmps vs, defers := [] } w := by
    refine ⟨Past.refl _ _, Nat.le_refl _, fun g hg => (by cases hg), fun b hb => ⟨hS b hb, by simp⟩, tmps0_size (by omega), fun v hv => (by cases hv), rfl, fun k g hg => (by cases hg), fun i j g hg => (by cases hg), fun k => ?_⟩
    exact rel_slot ((init_rel hvl hvr k).mono (fun b hb => .inl hb) (fun _ _ _ => rfl))
  refine calls_of_wp hf hb ?_
  refine Code.wp_mono ?_ (awp_ok hm body pc _ _ _ _ w hok h hF)
  rintro ex a' w' ⟨x, st, β, rfl, hf', hx, g, r, hg, hp, hres⟩
  have hN : ∀ b, Ent.N ⟨w, w.heap.size, none, none, ht⟩ b → w.heap.size ≤ b := fun b hb => hb.resolve_left (by simp)
  have hs := hf'.slot g
  rw [hg] at hs
  have hown : OwnAt w' w.heap.size (Imm S ⟨w, w.heap.size, none, none, ht⟩ w' β) e m xs r (β g) := hs
  have hbo : r.ownBlock = β g := by obtain ⟨_, _, _, _, hb, _⟩ := hown; exact hb
  have up : ∀ b, Imm S ⟨w, w.heap.size, none, none, ht⟩ w' β b → S b ∨ (w.heap.size ≤ b ∧ b < w'.heap.size ∧ r.ownBlock ≠ some b) := fun b hb => by
    rcases hb with hb | hb
    · exact .inl hb
    · exact .inr ⟨hN b hb.1, hb.2.1, by rw [hbo]; exact hb.2.2 g⟩
  have hrun : ∃ u, (results fn a'.tmps).run P w' = .ok u w' ∧ Rel w' (Imm S ⟨w, w.heap.size, none, none, ht⟩ w' β) (res r) u := by
    have hk : ∃ ty, fn.results.toList = [.cell q ty] ∧ (P.underlying ty).isSome = true ∧ rowT P ty = true ∧ (P.info? ty).map (·.size) = some n := by
      revert hr
      generalize fn.results.toList = l
      intro hr
      cases l with
      | nil => simp [okRes] at hr
      | cons y l =>
        simp only [okRes, Bool.and_eq_true] at hr
        cases l with
        | cons _ _ => simp [okRes] at hr
        | nil =>
          have h1 := hr.1
          cases y with
          | cell q' ty =>
            simp only [RV.ok, Bool.and_eq_true, beq_iff_eq, decide_eq_true_eq] at h1
            obtain ⟨⟨⟨rfl, k1⟩, k2⟩, k3⟩ := h1
            exact ⟨ty, rfl, k1, k2, k3⟩
          | _ => simp [RV.ok] at h1
    obtain ⟨ty, hl, k1, k2, k3⟩ := hk
    obtain ⟨u, v1, v2⟩ := res_loads hf' k1 k2 k3 hp
    refine ⟨u, ?_, by rw [← hres]; exact v2⟩
    unfold results
    have e1 : fn.results = #[.cell q ty] := by
      cases hq : fn.results with
      | mk l => rw [hq] at hl; simp at hl; rw [hl]
    rw [e1]
    simp [Sem.run_bind] at v1 ⊢
    rw [v1]
  obtain ⟨u, h1, h2⟩ := hrun
  have hpost : ∃ v r, (Ending.returned u : _) = .returned v ∧ Below w.heap.size w w' ∧ OwnAt w' w.heap.size (fun b => S b ∨ (w.heap.size ≤ b ∧ b < w'.heap.size ∧ r.ownBlock ≠ some b)) e m xs r r.ownBlock ∧ Rel w' (fun b => S b ∨ (w.heap.size ≤ b ∧ b < w'.heap.size ∧ r.ownBlock ≠ some b)) (res r) v :=
    ⟨u, r, rfl, hf'.below.below, by rw [hbo]; rw [hbo] at up; exact OwnAt.mono (w := w') up (fun _ _ _ => rfl) (fun _ _ => rfl) hown, h2.mono up (fun _ _ _ => rfl)⟩
  rcases hx with rfl | rfl
  · exact ⟨hf'.defers, u, h1, hpost⟩
  · exact ⟨hf'.defers, u, h1, hpost⟩
end
end Go.Proofs.Ytpecmhdepggnoaa
