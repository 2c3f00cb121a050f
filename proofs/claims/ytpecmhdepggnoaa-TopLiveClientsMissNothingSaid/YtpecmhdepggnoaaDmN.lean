/- The machine on data: the walk, as rewriting. What is left to do stands as a list. -/
import Derived.Test.YtpecmhdepggnoaaDmL
namespace Go.Proofs.Ytpecmhdepggnoaa
open Go.RowKit

inductive Itm where
  | c (pc : PCode)
  | o (l : List POp)
  | b (id : Nat)
  | l (J : ASt → Nat → Prop) (m : Nat)
def go (P : Program) (Q : PX → ASt → Prop) : List Itm → PX → ASt → Prop
  | [], x, st => Q x st
  | .c pc :: k, .normal, st => awp P pc (go P Q k) st
  | .o l :: k, .normal, st => opsWP P l (go P Q k .normal) st
  | .b _ :: k, .normal, st => go P Q k .normal st
  | .l J m :: _, .normal, st => ∃ st3 m3, Weak st st3 ∧ J st3 m3 ∧ m3 < m
  | .b id :: k, .exit i, st => if i = id then go P Q k .normal st else go P Q k (.exit i) st
  | .b _ :: k, .ret, st => go P Q k .ret st
  | .c _ :: k, .exit i, st => go P Q k (.exit i) st
  | .o _ :: k, .exit i, st => go P Q k (.exit i) st
  | .l _ _ :: k, .exit i, st => go P Q k (.exit i) st
  | .c _ :: k, .ret, st => go P Q k .ret st
  | .o _ :: k, .ret, st => go P Q k .ret st
  | .l _ _ :: k, .ret, st => go P Q k .ret st

section
variable {P : Program} {Q : PX → ASt → Prop} {k : List Itm} {st : ASt}
theorem g_skip : go P Q (.c .skip :: k) .normal st = go P Q k .normal st := rfl
theorem g_ops (l : List POp) : go P Q (.c (.ops l) :: k) .normal st = go P Q (.o l :: k) .normal st := rfl
/-- Slots may be held for less ahead of the operations. -/
theorem opwG {l : List POp} {st' : ASt} (hw : Weak st st') (h : go P Q (.o l :: k) .normal st') : go P Q (.c (.opw l) :: k) .normal st := ⟨st', hw, h⟩
/-- A value that only memory knows gets a name ahead of the operations. -/
theorem ophG {l : List POp} {F : Value → ASt} (hw : WeakV st F) (h : ∀ r : Value, r.oneCell' = true → go P Q (.o l :: k) .normal (F r)) : go P Q (.c (.oph l) :: k) .normal st := ⟨F, hw, h⟩
theorem g_seq (a b : PCode) : go P Q (.c (.seq a b) :: k) .normal st = go P Q (.c a :: .c b :: k) .normal st := by
  show awp P a (seqQ (awp P b (go P Q k)) (go P Q k)) st = awp P a (go P Q (.c b :: k)) st
  congr 1
  funext x st
  cases x <;> rfl
theorem g_block (id : Nat) (a : PCode) : go P Q (.c (.block id a) :: k) .normal st = go P Q (.c a :: .b id :: k) .normal st := by
  show awp P a (blkQ id (go P Q k)) st = awp P a (go P Q (.b id :: k)) st
  congr 1
  funext x st
  cases x <;> rfl
theorem g_exit (id : Nat) : go P Q (.c (.exit id) :: k) .normal st = go P Q k (.exit id) st := rfl
theorem g_ret : go P Q (.c .ret :: k) .normal st = go P Q k .ret st := rfl
theorem x_c (i : Nat) (a : PCode) : go P Q (.c a :: k) (.exit i) st = go P Q k (.exit i) st := rfl
theorem x_o (i : Nat) (l : List POp) : go P Q (.o l :: k) (.exit i) st = go P Q k (.exit i) st := rfl
theorem x_l (i m : Nat) (J : ASt → Nat → Prop) : go P Q (.l J m :: k) (.exit i) st = go P Q k (.exit i) st := rfl
theorem x_b (i j : Nat) : go P Q (.b j :: k) (.exit i) st = if i = j then go P Q k .normal st else go P Q k (.exit i) st := rfl
theorem g_b (j : Nat) : go P Q (.b j :: k) .normal st = go P Q k .normal st := rfl
theorem r_all : go P Q k .ret st = Q .ret st := by
  induction k with
  | nil => rfl
  | cons i k ih => cases i <;> exact ih
theorem g_nil (x : PX) : go P Q [] x st = Q x st := rfl
theorem o_nil : go P Q (.o [] :: k) .normal st = go P Q k .normal st := rfl

/-- A test. -/
def CndV (P : Program) (Q : PX → ASt → Prop) (v : AV) (a b : PCode) (k : List Itm) (st : ASt) : Prop := match v with
  | .val (.bool t) => (t = true → go P Q (.c a :: k) .normal st) ∧ (t = false → go P Q (.c b :: k) .normal st)
  | _ => False
theorem g_cond (c : Opd) (a b : PCode) : go P Q (.c (.cond c a b) :: k) .normal st = CndV P Q (view st c) a b k st := by
  refine propext ⟨?_, ?_⟩
  · rintro ⟨t, hv, h1, h2⟩
    rw [hv]
    refine ⟨fun e => ?_, fun e => ?_⟩
    · subst e; have := h1 rfl; rw [lit_self hv] at this; exact this
    · subst e; have := h2 rfl; rw [lit_self hv] at this; exact this
  · intro h
    unfold CndV at h
    split at h
    · rename_i t hv
      refine ⟨t, hv, fun e => ?_, fun e => ?_⟩
      · subst e; rw [lit_self hv]; exact h.1 rfl
      · subst e; rw [lit_self hv]; exact h.2 rfl
    · exact h.elim
theorem cnd_t (a b : PCode) : CndV P Q (.val (.bool true)) a b k st = go P Q (.c a :: k) .normal st := by simp [CndV]
theorem cnd_f (a b : PCode) : CndV P Q (.val (.bool false)) a b k st = go P Q (.c b :: k) .normal st := by simp [CndV]
theorem condS {a b : PCode} {t : Bool} (h1 : t = true → go P Q (.c a :: k) .normal st) (h2 : t = false → go P Q (.c b :: k) .normal st) : CndV P Q (.val (.bool t)) a b k st := ⟨h1, h2⟩

theorem condD {a b : PCode} {p : Prop} {d : Decidable p} (h1 : p → go P Q (.c a :: k) .normal st) (h2 : ¬p → go P Q (.c b :: k) .normal st) : CndV P Q (.val (.bool (decide p))) a b k st := ⟨fun h => h1 (of_decide_eq_true h), fun h => h2 (of_decide_eq_false h)⟩

theorem condE {a b : PCode} {x y : Int} (h1 : x = y → go P Q (.c a :: k) .normal st) (h2 : ¬x = y → go P Q (.c b :: k) .normal st) : CndV P Q (.val (.bool (x == y))) a b k st := ⟨fun h => h1 (by simpa using h), fun h => h2 (by simpa using h)⟩
theorem condN {a b : PCode} {x y : Int} (h1 : ¬x = y → go P Q (.c a :: k) .normal st) (h2 : x = y → go P Q (.c b :: k) .normal st) : CndV P Q (.val (.bool (x != y))) a b k st := ⟨fun h => h1 (by simpa using h), fun h => h2 (by simpa using h)⟩
theorem condI {a b : PCode} {t : Bool} (h1 : t = false → go P Q (.c a :: k) .normal st) (h2 : t = true → go P Q (.c b :: k) .normal st) : CndV P Q (.val (.bool (!t))) a b k st := ⟨fun h => h1 (by simpa using h), fun h => h2 (by simpa using h)⟩

/-- An operation under a guard. -/
def GrdV (P : Program) (Q : PX → ASt → Prop) (v : AV) (d : Nat) (po : PO) (s : Nat) (f : Bool) (l : List POp) (k : List Itm) (st : ASt) : Prop := match v with
  | .val v => (v = .bool f → go P Q (.o (⟨d, po, none⟩ :: l) :: k) .normal st) ∧ (v ≠ .bool f → (st d).isHome = false ∧ go P Q (.o l :: k) .normal (st.put d (.val undef)))
  | _ => s = s ∧ False
theorem o_guard (d : Nat) (po : PO) (s : Nat) (f : Bool) (l : List POp) : go P Q (.o (⟨d, po, some (s, f)⟩ :: l) :: k) .normal st = GrdV P Q (st s) d po s f l k st := by
  refine propext ⟨?_, ?_⟩
  · rintro ⟨v, hs, h1, h2⟩
    rw [hs]
    exact ⟨h1, h2⟩
  · intro h
    unfold GrdV at h
    split at h
    · rename_i v hs
      exact ⟨v, hs, h.1, h.2⟩
    · exact h.2.elim
section
variable (d : Nat) (po : PO) (s : Nat) (l : List POp)
theorem grd_tt : GrdV P Q (.val (.bool true)) d po s true l k st = go P Q (.o (⟨d, po, none⟩ :: l) :: k) .normal st := by simp [GrdV]
theorem grd_ff : GrdV P Q (.val (.bool false)) d po s false l k st = go P Q (.o (⟨d, po, none⟩ :: l) :: k) .normal st := by simp [GrdV]
theorem grd_tf : GrdV P Q (.val (.bool true)) d po s false l k st = ((st d).isHome = false ∧ go P Q (.o l :: k) .normal (st.put d (.val undef))) := by simp [GrdV]
theorem grd_ft : GrdV P Q (.val (.bool false)) d po s true l k st = ((st d).isHome = false ∧ go P Q (.o l :: k) .normal (st.put d (.val undef))) := by simp [GrdV]
theorem grd_u (f : Bool) : GrdV P Q (.val undef) d po s f l k st = ((st d).isHome = false ∧ go P Q (.o l :: k) .normal (st.put d (.val undef))) := by simp [GrdV, undef]
end
theorem guardS {d : Nat} {po : PO} {s : Nat} {f t : Bool} {l : List POp} (hs : st s = .val (.bool t)) (h1 : t = true → go P Q (.o (⟨d, po, some (s, f)⟩ :: l) :: k) .normal (st.put s (.val (.bool true)))) (h2 : t = false → go P Q (.o (⟨d, po, some (s, f)⟩ :: l) :: k) .normal (st.put s (.val (.bool false)))) :
    GrdV P Q (.val (.bool t)) d po s f l k st := by
  rw [← hs, ← o_guard]
  cases t
  · have := h2 rfl; rwa [put_self hs] at this
  · have := h1 rfl; rwa [put_self hs] at this

theorem guardD {d : Nat} {po : PO} {s : Nat} {f : Bool} {p : Prop} {e : Decidable p} {l : List POp} (hs : st s = .val (.bool (decide p))) (h1 : p → go P Q (.o (⟨d, po, some (s, f)⟩ :: l) :: k) .normal (st.put s (.val (.bool true)))) (h2 : ¬p → go P Q (.o (⟨d, po, some (s, f)⟩ :: l) :: k) .normal (st.put s (.val (.bool false)))) :
    GrdV P Q (.val (.bool (decide p))) d po s f l k st := guardS hs (fun h => h1 (of_decide_eq_true h)) (fun h => h2 (of_decide_eq_false h))

theorem guardE {d : Nat} {po : PO} {s : Nat} {f : Bool} {x y : Int} {l : List POp} (hs : st s = .val (.bool (x == y))) (h1 : x = y → go P Q (.o (⟨d, po, some (s, f)⟩ :: l) :: k) .normal (st.put s (.val (.bool true)))) (h2 : ¬x = y → go P Q (.o (⟨d, po, some (s, f)⟩ :: l) :: k) .normal (st.put s (.val (.bool false)))) :
    GrdV P Q (.val (.bool (x == y))) d po s f l k st := guardS hs (fun h => h1 (by simpa using h)) (fun h => h2 (by simpa using h))
theorem guardN {d : Nat} {po : PO} {s : Nat} {f : Bool} {x y : Int} {l : List POp} (hs : st s = .val (.bool (x != y))) (h1 : ¬x = y → go P Q (.o (⟨d, po, some (s, f)⟩ :: l) :: k) .normal (st.put s (.val (.bool true)))) (h2 : x = y → go P Q (.o (⟨d, po, some (s, f)⟩ :: l) :: k) .normal (st.put s (.val (.bool false)))) :
    GrdV P Q (.val (.bool (x != y))) d po s f l k st := guardS hs (fun h => h1 (by simpa using h)) (fun h => h2 (by simpa using h))
theorem guardI {d : Nat} {po : PO} {s : Nat} {f t : Bool} {l : List POp} (hs : st s = .val (.bool (!t))) (h1 : t = false → go P Q (.o (⟨d, po, some (s, f)⟩ :: l) :: k) .normal (st.put s (.val (.bool true)))) (h2 : t = true → go P Q (.o (⟨d, po, some (s, f)⟩ :: l) :: k) .normal (st.put s (.val (.bool false)))) :
    GrdV P Q (.val (.bool (!t))) d po s f l k st := guardS hs (fun h => h1 (by simpa using h)) (fun h => h2 (by simpa using h))

/-- A call. -/
def CallG (P : Program) (Q : PX → ASt → Prop) (f : Nat) (args : List AV) (loan : Prop) (d : Nat) (l : List POp) (k : List Itm) (st : ASt) : Prop :=
  ∃ res, CallOK P f args res ∧ (loan ∨ res.FlatRes) ∧ go P Q (.o l :: k) .normal (st.put d res)
theorem o_call (d f : Nat) (args : List Opd) (l : List POp) : go P Q (.o (⟨d, .call f args, none⟩ :: l) :: k) .normal st = ((st d).isHome = false ∧ CallG P Q f (args.map fun y => argv st (view st y)) (∀ y ∈ args, (view st y).noLoan = true) d l k st) := by
  refine propext ⟨?_, ?_⟩
  · rintro ⟨res, h1, h2, h3, h4⟩; exact ⟨h3, res, h1, h2, h4⟩
  · rintro ⟨h3, res, h1, h2, h4⟩; exact ⟨res, h1, h2, h3, h4⟩
theorem callG {f : Nat} {args : List AV} {d : Nat} {l : List POp} {res : AV} (h : CallOK P f args res) (h2 : go P Q (.o l :: k) .normal (st.put d res)) : CallG P Q f args True d l k st := ⟨res, h, .inl trivial, h2⟩
theorem callG_flat {f : Nat} {args : List AV} {d : Nat} {l : List POp} {res : AV} {loan : Prop} (h : CallOK P f args res) (hf : res.FlatRes) (h2 : go P Q (.o l :: k) .normal (st.put d res)) : CallG P Q f args loan d l k st := ⟨res, h, .inr hf, h2⟩
/-- A call that gets something of the frame's own. -/
def CallmG (P : Program) (Q : PX → ASt → Prop) (f : Nat) (v : AV) (args : List AV) (loan : Prop) (d : Nat) (l : List POp) (k : List Itm) (st : ASt) : Prop :=
  loan ∧ ((∃ j e m xs res, v = .alias j ∧ st j = .own e m xs ∧ TakeOK P f e m xs args res ∧ go P Q (.o l :: k) .normal ((st.free j).put d res)) ∨
    (∃ e m res, v = .nilsl ∧ 0 < m ∧ TakeOK P f e m [] args res ∧ go P Q (.o l :: k) .normal (st.put d res)) ∨
    (∃ j a1 res, (v = .alias j ∨ v = .ref j 0) ∧ (st j).turns a1 ∧ TurnOK P f (st j) a1 args res ∧ go P Q (.o l :: k) .normal ((st.put j a1).put d res)) ∨
    (∃ res, v.noLoan = true ∧ CallOK P f (argv st v :: args) res ∧ go P Q (.o l :: k) .normal (st.put d res)))
theorem o_callm (d f : Nat) (x : Opd) (r : List Opd) (l : List POp) : go P Q (.o (⟨d, .callm f (x :: r), none⟩ :: l) :: k) .normal st = ((st d).isHome = false ∧ CallmG P Q f (view st x) (r.map fun y => argv st (view st y)) (∀ y ∈ r, (view st y).noLoan = true) d l k st) := by
  refine propext ⟨?_, ?_⟩
  · rintro ⟨h3, h1, h2⟩; exact ⟨h3, h1, h2⟩
  · rintro ⟨h3, h1, h2⟩; exact ⟨h3, h1, h2⟩
theorem takeG {f j e m : Nat} {xs : List (List AV)} {args : List AV} {d : Nat} {l : List POp} {res : AV} (hj : st j = .own e m xs) (h : TakeOK P f e m xs args res) (h2 : go P Q (.o l :: k) .normal ((st.free j).put d res)) : CallmG P Q f (.alias j) args True d l k st :=
  ⟨trivial, .inl ⟨j, e, m, xs, res, rfl, hj, h, h2⟩⟩
theorem takeG0 {f e m : Nat} {args : List AV} {d : Nat} {l : List POp} {res : AV} (hm : 0 < m) (h : TakeOK P f e m [] args res) (h2 : go P Q (.o l :: k) .normal (st.put d res)) : CallmG P Q f .nilsl args True d l k st :=
  ⟨trivial, .inr (.inl ⟨e, m, res, rfl, hm, h, h2⟩)⟩
theorem turnG {f j e m : Nat} {xs ys : List (List AV)} {args : List AV} {d : Nat} {l : List POp} {res : AV} (hj : st j = .own e m xs) (hl : ys.length = xs.length) (h : TurnOK P f (.own e m xs) (.own e m ys) args res) (h2 : go P Q (.o l :: k) .normal ((st.put j (.own e m ys)).put d res)) : CallmG P Q f (.alias j) args True d l k st :=
  ⟨trivial, .inr (.inr (.inl ⟨j, .own e m ys, res, .inl rfl, by rw [hj]; exact ⟨rfl, rfl, hl⟩, by rw [hj]; exact h, h2⟩))⟩
theorem turnGb {f j : Nat} {xs ys : List AV} {args : List AV} {d : Nat} {l : List POp} {res : AV} (hj : st j = .box xs) (h : TurnOK P f (.box xs) (.box ys) args res) (h2 : go P Q (.o l :: k) .normal ((st.put j (.box ys)).put d res)) : CallmG P Q f (.ref j 0) args True d l k st :=
  ⟨trivial, .inr (.inr (.inl ⟨j, .box ys, res, .inr rfl, by rw [hj]; trivial, by rw [hj]; exact h, h2⟩))⟩
theorem readG {f : Nat} {v : AV} {args : List AV} {d : Nat} {l : List POp} {res : AV} (hv : v.noLoan = true) (h : CallOK P f (argv st v :: args) res) (h2 : go P Q (.o l :: k) .normal (st.put d res)) : CallmG P Q f v args True d l k st :=
  ⟨trivial, .inr (.inr (.inr ⟨res, hv, h, h2⟩))⟩
/-- A call that takes something of the frame's own. -/
def CalltG (P : Program) (Q : PX → ASt → Prop) (f : Nat) (v : AV) (args : List AV) (loan : Prop) (avoid : List Nat) (d : Nat) (l : List POp) (k : List Itm) (st : ASt) : Prop :=
  loan ∧ ((∃ j e m xs res, v = .alias j ∧ st j = .own e m xs ∧ j ∉ avoid ∧ TakeOK P f e m xs args res ∧ go P Q (.o l :: k) .normal ((st.free j).put d res)) ∨
    (∃ e m res, v = .nilsl ∧ 0 < m ∧ TakeOK P f e m [] args res ∧ go P Q (.o l :: k) .normal (st.put d res)))
theorem o_callt (d f : Nat) (x : Opd) (r : List Opd) (avoid : List Nat) (l : List POp) : go P Q (.o (⟨d, .callt f (x :: r) avoid, none⟩ :: l) :: k) .normal st = ((st d).isHome = false ∧ CalltG P Q f (view st x) (r.map fun y => argv st (view st y)) (∀ y ∈ r, (view st y).noLoan = true) avoid d l k st) := by
  refine propext ⟨?_, ?_⟩
  · rintro ⟨h3, h1, h2⟩; exact ⟨h3, h1, h2⟩
  · rintro ⟨h3, h1, h2⟩; exact ⟨h3, h1, h2⟩
theorem takeT {f j e m : Nat} {xs : List (List AV)} {args : List AV} {avoid : List Nat} {d : Nat} {l : List POp} {res : AV} (hj : st j = .own e m xs) (ha : j ∉ avoid) (h : TakeOK P f e m xs args res) (h2 : go P Q (.o l :: k) .normal ((st.free j).put d res)) : CalltG P Q f (.alias j) args True avoid d l k st :=
  ⟨trivial, .inl ⟨j, e, m, xs, res, rfl, hj, ha, h, h2⟩⟩
theorem takeT0 {f e m : Nat} {args : List AV} {avoid : List Nat} {d : Nat} {l : List POp} {res : AV} (hm : 0 < m) (h : TakeOK P f e m [] args res) (h2 : go P Q (.o l :: k) .normal (st.put d res)) : CalltG P Q f .nilsl args True avoid d l k st :=
  ⟨trivial, .inr ⟨e, m, res, rfl, hm, h, h2⟩⟩
/-- A call that the model answers. -/
def CallxG (P : Program) (Q : PX → ASt → Prop) (f : Nat) (ars : List AV) (d : Nat) (l : List POp) (k : List Itm) (st : ASt) : Prop :=
  ∃ vs cs, ars = vs.map AV.val ∧ ExtOK P f vs cs ∧ go P Q (.o l :: k) .normal (st.put d (.tup (cs.map AV.val)))
theorem o_callx (d f : Nat) (args : List Opd) (l : List POp) : go P Q (.o (⟨d, .callx f args, none⟩ :: l) :: k) .normal st = ((st d).isHome = false ∧ CallxG P Q f (args.map fun y => view st y) d l k st) := by
  refine propext ⟨?_, ?_⟩
  · rintro ⟨vs, cs, h1, h2, h3, h4⟩; exact ⟨h3, vs, cs, h1, h2, h4⟩
  · rintro ⟨h3, vs, cs, h1, h2, h4⟩; exact ⟨vs, cs, h1, h2, h3, h4⟩
theorem extG {f : Nat} {vs cs : List Value} {ars : List AV} {d : Nat} {l : List POp} (h : ExtOK P f vs cs) (ha : ars = vs.map AV.val) (h2 : go P Q (.o l :: k) .normal (st.put d (.tup (cs.map AV.val)))) : CallxG P Q f ars d l k st := ⟨vs, cs, ha, h, h2⟩
/-- A call of a closure. -/
def CallvG (P : Program) (Q : PX → ASt → Prop) (v : AV) (args : List AV) (loan : Prop) (d : Nat) (l : List POp) (k : List Itm) (st : ASt) : Prop :=
  ∃ f ds res, v.isFn f ds ∧ okFn P f = true ∧ CallOK P f (args ++ ds.map fun d => argv st (.ref d 0)) res ∧ ((loan ∧ ds = []) ∨ res.FlatRes) ∧ go P Q (.o l :: k) .normal (st.put d res)
theorem o_callv (d : Nat) (x : Opd) (args : List Opd) (l : List POp) : go P Q (.o (⟨d, .callv x args, none⟩ :: l) :: k) .normal st = ((st d).isHome = false ∧ CallvG P Q (view st x) (args.map fun y => argv st (view st y)) (∀ y ∈ args, (view st y).noLoan = true) d l k st) := by
  refine propext ⟨?_, ?_⟩
  · rintro ⟨f, ds, res, h0, hf, h1, h2, h3, h4⟩; exact ⟨h3, f, ds, res, h0, hf, h1, h2, h4⟩
  · rintro ⟨h3, f, ds, res, h0, hf, h1, h2, h4⟩; exact ⟨f, ds, res, h0, hf, h1, h2, h3, h4⟩
theorem callvG {f : Nat} {ds : List Nat} {args : List AV} {d : Nat} {l : List POp} {res : AV} {loan : Prop} (hf : okFn P f = true) (h : CallOK P f (args ++ ds.map fun d => argv st (.ref d 0)) res) (hr : res.FlatRes) (h2 : go P Q (.o l :: k) .normal (st.put d res)) : CallvG P Q (.clo f ds) args loan d l k st :=
  ⟨f, ds, res, .inl rfl, hf, h, .inr hr, h2⟩
/-- A call of a function that came as an argument. -/
theorem callfG {f : Nat} {args : List AV} {d : Nat} {l : List POp} {res : AV} {loan : Prop} (hf : okFn P f = true) (h : CallOK P f args res) (hr : res.FlatRes) (h2 : go P Q (.o l :: k) .normal (st.put d res)) : CallvG P Q (.val (.func (.func f) #[] #[])) args loan d l k st :=
  ⟨f, [], res, .inr ⟨rfl, rfl⟩, hf, by simpa using h, .inr hr, h2⟩

/-- A call of a function that came with what it has caught. -/
def CallcG (P : Program) (Q : PX → ASt → Prop) (v : AV) (args : List AV) (loan : Prop) (d : Nat) (l : List POp) (k : List Itm) (st : ASt) : Prop :=
  ∃ f cs res, v = .fnv f cs ∧ okFn P f = true ∧ CallOK P f (args ++ cs) res ∧ (loan ∨ res.FlatRes) ∧ go P Q (.o l :: k) .normal (st.put d res)
theorem o_callc (d : Nat) (x : Opd) (args : List Opd) (l : List POp) : go P Q (.o (⟨d, .callc x args, none⟩ :: l) :: k) .normal st = ((st d).isHome = false ∧ CallcG P Q (view st x) (args.map fun y => argv st (view st y)) (∀ y ∈ args, (view st y).noLoan = true) d l k st) := by
  refine propext ⟨?_, ?_⟩
  · rintro ⟨f, cs, res, h0, hf, h1, h2, h3, h4⟩; exact ⟨h3, f, cs, res, h0, hf, h1, h2, h4⟩
  · rintro ⟨h3, f, cs, res, h0, hf, h1, h2, h4⟩; exact ⟨f, cs, res, h0, hf, h1, h2, h3, h4⟩
theorem callcG {f : Nat} {cs args : List AV} {d : Nat} {l : List POp} {res : AV} {loan : Prop} (hf : okFn P f = true) (h : CallOK P f (args ++ cs) res) (hr : res.FlatRes) (h2 : go P Q (.o l :: k) .normal (st.put d res)) : CallcG P Q (.fnv f cs) args loan d l k st :=
  ⟨f, cs, res, rfl, hf, h, .inr hr, h2⟩
/-- A call whose result has a slice in it that nobody else has. -/
def CallhG (P : Program) (Q : PX → ASt → Prop) (f : Nat) (args : List AV) (loan : Prop) (d : Nat) (l : List POp) (k : List Itm) (st : ASt) : Prop :=
  loan ∧ ∃ g e m xs res, CallH P f args e m xs res ∧ (st g).isHome = false ∧ g ≠ d ∧ ∀ r : Value, r.oneCell' = true → go P Q (.o l :: k) .normal ((st.put g (.held e m xs r)).put d (res r))
theorem o_callh (d f : Nat) (args : List Opd) (l : List POp) : go P Q (.o (⟨d, .callh f args, none⟩ :: l) :: k) .normal st = ((st d).isHome = false ∧ CallhG P Q f (args.map fun y => argv st (view st y)) (∀ y ∈ args, (view st y).noLoan = true) d l k st) := by
  refine propext ⟨?_, ?_⟩
  · rintro ⟨g, e, m, xs, res, h1, h2, h3, h4, h5, h6⟩; exact ⟨h3, h2, g, e, m, xs, res, h1, h4, h5, h6⟩
  · rintro ⟨h3, h2, g, e, m, xs, res, h1, h4, h5, h6⟩; exact ⟨g, e, m, xs, res, h1, h2, h3, h4, h5, h6⟩
theorem callhG {f e m d : Nat} {args : List AV} {xs : List (List AV)} {l : List POp} {res : Value → AV} (g : Nat) (h : CallH P f args e m xs res) (hg : (st g).isHome = false) (hgd : g ≠ d) (h2 : ∀ r : Value, r.oneCell' = true → go P Q (.o l :: k) .normal ((st.put g (.held e m xs r)).put d (res r))) : CallhG P Q f args True d l k st :=
  ⟨trivial, g, e, m, xs, res, h, hg, hgd, h2⟩
/-- append to a slice that is known by a name. -/
def ApphG (P : Program) (Q : PX → ASt → Prop) (v : AV) (ys : Option (List (List AV))) (e m b d : Nat) (l : List POp) (k : List Itm) (st : ASt) : Prop :=
  ∃ g xs yl r, v = .val r ∧ st g = .held e m xs r ∧ ys = some yl ∧ g ≠ d ∧ (∀ y ∈ yl, y.length = m) ∧ xs.length + yl.length ≤ 9223372036854775807 ∧ (xs.length + yl.length) * b ≤ 140737488355328 ∧
    ∀ r' : Value, r'.oneCell' = true → go P Q (.o l :: k) .normal (((st.free g).put d (.own e m (xs ++ yl))).hold d g e m (xs ++ yl) r')
theorem o_apph (d e m b : Nat) (x y : Opd) (l : List POp) : go P Q (.o (⟨d, .apph e m b x y, none⟩ :: l) :: k) .normal st = ((st d).isHome = false ∧ ApphG P Q (view st x) (rowOf st (view st y)) e m b d l k st) := by
  refine propext ⟨?_, ?_⟩
  · rintro ⟨g, xs, ys, r, h1, h2, h3, h4, h5, h6, h7, h8, h9⟩; exact ⟨h5, g, xs, ys, r, h1, h2, h3, h4, h6, h7, h8, h9⟩
  · rintro ⟨h5, g, xs, ys, r, h1, h2, h3, h4, h6, h7, h8, h9⟩; exact ⟨g, xs, ys, r, h1, h2, h3, h4, h5, h6, h7, h8, h9⟩
theorem apphG {e m b d : Nat} {l : List POp} {xs ys : List (List AV)} {r : Value} (g : Nat) (hg : st g = .held e m xs r) (hgd : g ≠ d) (hy : ∀ y ∈ ys, y.length = m) (h63 : xs.length + ys.length ≤ 9223372036854775807) (hb : (xs.length + ys.length) * b ≤ 140737488355328)
    (h2 : ∀ r' : Value, r'.oneCell' = true → go P Q (.o l :: k) .normal (((st.free g).put d (.own e m (xs ++ ys))).hold d g e m (xs ++ ys) r')) : ApphG P Q (.val r) (some ys) e m b d l k st := ⟨g, xs, ys, r, rfl, hg, rfl, hgd, hy, h63, hb, h2⟩
/-- append to a row that lies in none of these slots. -/
def noAv (avoid : List Nat) : AV → Prop
  | .alias h => (avoid.all fun a => a != h) = true
  | _ => True
theorem noav_alias (avoid : List Nat) (h : Nat) : noAv avoid (.alias h) = ((avoid.all fun a => a != h) = true) := rfl
theorem noav_nil (avoid : List Nat) : noAv avoid .nilsl = True := rfl
theorem noav_is {avoid : List Nat} {v : AV} : noAv avoid v ↔ ∀ h, v = .alias h → h ∉ avoid := by
  constructor
  · rintro hn h rfl hm
    have := List.all_eq_true.1 hn h hm
    simp at this
  · intro hn
    cases v <;> try trivial
    rename_i h
    refine List.all_eq_true.2 fun a ha => ?_
    rw [bne_iff_ne]
    rintro rfl
    exact hn _ rfl ha

/-- A slice compared with nil: an empty one may be nil or not. -/
def NilV (P : Program) (Q : PX → ASt → Prop) (d : Nat) (n : Bool) (l : List POp) (k : List Itm) (st : ASt) (r : Option (List (List AV))) : Prop :=
  ∃ xs, r = some xs ∧ (st d).isHome = false ∧ ∀ b : Bool, (xs ≠ [] → b = false) → go P Q (.o l :: k) .normal (st.put d (.val (.bool (if n = true then !b else b))))
theorem o_eqnil (d : Nat) (n : Bool) (x : Opd) (l : List POp) : go P Q (.o (⟨d, .eqnil n x, none⟩ :: l) :: k) .normal st = NilV P Q d n l k st (rowOf st (view st x)) := rfl
theorem nilG {d : Nat} {n : Bool} {l : List POp} {xs : List (List AV)} (hd : (st d).isHome = false) (h : ∀ b : Bool, (xs ≠ [] → b = false) → go P Q (.o l :: k) .normal (st.put d (.val (.bool (if n = true then !b else b))))) : NilV P Q d n l k st (some xs) := ⟨xs, rfl, hd, h⟩
/-- An operation that looks or makes; one with an effect. -/
def Lk (P : Program) (Q : PX → ASt → Prop) (d : Nat) (l : List POp) (k : List Itm) (st : ASt) (r : Prop × AV) : Prop := (st d).isHome = false ∧ r.1 ∧ go P Q (.o l :: k) .normal (st.put d r.2)
theorem lk (d : Nat) (l : List POp) (p : Prop) (v : AV) : Lk P Q d l k st (p, v) = ((st d).isHome = false ∧ p ∧ go P Q (.o l :: k) .normal (st.put d v)) := rfl
def Ef (P : Program) (Q : PX → ASt → Prop) (l : List POp) (k : List Itm) (r : Prop × ASt) : Prop := r.1 ∧ go P Q (.o l :: k) .normal r.2
theorem ef (l : List POp) (p : Prop) (s : ASt) : Ef P Q l k (p, s) = (p ∧ go P Q (.o l :: k) .normal s) := rfl
theorem o_mv (d : Nat) (x : Opd) (l : List POp) : go P Q (.o (⟨d, .mv x, none⟩ :: l) :: k) .normal st = Lk P Q d l k st (hv st (.mv x)) := rfl
theorem o_pick (d : Nat) (c a b : Opd) (l : List POp) : go P Q (.o (⟨d, .pick c a b, none⟩ :: l) :: k) .normal st = Lk P Q d l k st (hv st (.pick c a b)) := rfl
theorem o_bin (d : Nat) (op : BinOp) (x y : Opd) (l : List POp) : go P Q (.o (⟨d, .bin op x y, none⟩ :: l) :: k) .normal st = Lk P Q d l k st (hv st (.bin op x y)) := rfl
theorem o_eqs (d : Nat) (n : Bool) (ks : List Nat) (x y : Opd) (l : List POp) : go P Q (.o (⟨d, .eqs n ks x y, none⟩ :: l) :: k) .normal st = Lk P Q d l k st (hv st (.eqs n ks x y)) := rfl
theorem o_eqb (d : Nat) (n : Bool) (x y : Opd) (l : List POp) : go P Q (.o (⟨d, .eqb n x y, none⟩ :: l) :: k) .normal st = Lk P Q d l k st (hv st (.eqb n x y)) := rfl
theorem o_never (d : Nat) (l : List POp) : go P Q (.o (⟨d, .never, none⟩ :: l) :: k) .normal st = ((st d).isHome = false ∧ False ∧ go P Q (.o l :: k) .normal (st.put d .junk)) := rfl
theorem o_un (d : Nat) (op : UnOp) (x : Opd) (l : List POp) : go P Q (.o (⟨d, .un op x, none⟩ :: l) :: k) .normal st = Lk P Q d l k st (hv st (.un op x)) := rfl
theorem o_conv (d : Nat) (q : IntKind) (x : Opd) (l : List POp) : go P Q (.o (⟨d, .conv q x, none⟩ :: l) :: k) .normal st = Lk P Q d l k st (hv st (.conv q x)) := rfl
theorem o_load (d : Nat) (x : Opd) (l : List POp) : go P Q (.o (⟨d, .load x, none⟩ :: l) :: k) .normal st = Lk P Q d l k st (hv st (.load x)) := rfl
theorem o_loadr (d : Nat) (x : Opd) (l : List POp) : go P Q (.o (⟨d, .loadr x, none⟩ :: l) :: k) .normal st = Lk P Q d l k st (hv st (.loadr x)) := rfl
theorem o_idxr (d : Nat) (m : Nat) (x i : Opd) (l : List POp) : go P Q (.o (⟨d, .idxr m x i, none⟩ :: l) :: k) .normal st = Lk P Q d l k st (hv st (.idxr m x i)) := rfl
theorem o_loads (d : Nat) (j : Nat) (x : Opd) (l : List POp) : go P Q (.o (⟨d, .loads j x, none⟩ :: l) :: k) .normal st = Lk P Q d l k st (hv st (.loads j x)) := rfl
theorem o_loadsr (d : Nat) (j : Nat) (x : Opd) (l : List POp) : go P Q (.o (⟨d, .loadsr j x, none⟩ :: l) :: k) .normal st = Lk P Q d l k st (hv st (.loadsr j x)) := rfl
theorem o_fld (d : Nat) (j : Nat) (x : Opd) (l : List POp) : go P Q (.o (⟨d, .fld j x, none⟩ :: l) :: k) .normal st = Lk P Q d l k st (hv st (.fld j x)) := rfl
theorem o_idx (d : Nat) (m : Nat) (x i : Opd) (l : List POp) : go P Q (.o (⟨d, .idx m x i, none⟩ :: l) :: k) .normal st = Lk P Q d l k st (hv st (.idx m x i)) := rfl
theorem o_idxs (d : Nat) (x i : Opd) (l : List POp) : go P Q (.o (⟨d, .idxs x i, none⟩ :: l) :: k) .normal st = Lk P Q d l k st (hv st (.idxs x i)) := rfl
theorem o_len (d : Nat) (x : Opd) (l : List POp) : go P Q (.o (⟨d, .len x, none⟩ :: l) :: k) .normal st = Lk P Q d l k st (hv st (.len x)) := rfl
theorem o_lens (d : Nat) (x : Opd) (l : List POp) : go P Q (.o (⟨d, .lens x, none⟩ :: l) :: k) .normal st = Lk P Q d l k st (hv st (.lens x)) := rfl
theorem o_ext (d : Nat) (j : Nat) (x : Opd) (l : List POp) : go P Q (.o (⟨d, .ext j x, none⟩ :: l) :: k) .normal st = Lk P Q d l k st (hv st (.ext j x)) := rfl
theorem o_nilck (d : Nat) (x : Opd) (l : List POp) : go P Q (.o (⟨d, .nilck x, none⟩ :: l) :: k) .normal st = Lk P Q d l k st (hv st (.nilck x)) := rfl
theorem o_slc (d : Nat) (lo hi : Option Opd) (m : Nat) (x : Opd) (l : List POp) : go P Q (.o (⟨d, .slc lo hi m x, none⟩ :: l) :: k) .normal st = Lk P Q d l k st (hv st (.slc lo hi m x)) := rfl
theorem o_slcs (d : Nat) (lo hi : Option Opd) (x : Opd) (l : List POp) : go P Q (.o (⟨d, .slcs lo hi x, none⟩ :: l) :: k) .normal st = Lk P Q d l k st (hv st (.slcs lo hi x)) := rfl
theorem o_build (d : Nat) (z : List Value) (ps : List (Nat × Nat × Opd)) (l : List POp) : go P Q (.o (⟨d, .build z ps, none⟩ :: l) :: k) .normal st = Lk P Q d l k st (hv st (.build z ps)) := rfl
theorem o_minmax (d : Nat) (b : Bool) (x y : Opd) (l : List POp) : go P Q (.o (⟨d, .minmax b x y, none⟩ :: l) :: k) .normal st = Lk P Q d l k st (hv st (.minmax b x y)) := rfl
theorem o_mkfn (d : Nat) (f : Nat) (cs : List Nat) (l : List POp) : go P Q (.o (⟨d, .mkfn f cs, none⟩ :: l) :: k) .normal st = Lk P Q d l k st (hv st (.mkfn f cs)) := rfl
theorem o_mkfnr (d : Nat) (f : Nat) (cs : List Nat) (l : List POp) : go P Q (.o (⟨d, .mkfnr f cs, none⟩ :: l) :: k) .normal st = Lk P Q d l k st (hv st (.mkfnr f cs)) := rfl
theorem o_alloc (d : Nat) (z : List Value) (l : List POp) : go P Q (.o (⟨d, .alloc z, none⟩ :: l) :: k) .normal st = Lk P Q d l k st (hv st (.alloc z)) := rfl
theorem o_box (d : Nat) (x : Opd) (l : List POp) : go P Q (.o (⟨d, .box x, none⟩ :: l) :: k) .normal st = Lk P Q d l k st (hv st (.box x)) := rfl
theorem o_boxs (d : Nat) (x : Opd) (l : List POp) : go P Q (.o (⟨d, .boxs x, none⟩ :: l) :: k) .normal st = Lk P Q d l k st (hv st (.boxs x)) := rfl
theorem o_row (d : Nat) (e m : Nat) (ps : List Opd) (l : List POp) : go P Q (.o (⟨d, .row e m ps, none⟩ :: l) :: k) .normal st = Lk P Q d l k st (hv st (.row e m ps)) := rfl
theorem o_rowr (d : Nat) (e m : Nat) (ps : List Opd) (l : List POp) : go P Q (.o (⟨d, .rowr e m ps, none⟩ :: l) :: k) .normal st = Lk P Q d l k st (hv st (.rowr e m ps)) := rfl
theorem o_mk (d : Nat) (e m b : Nat) (z : List Value) (x y : Opd) (l : List POp) : go P Q (.o (⟨d, .mk e m b z x y, none⟩ :: l) :: k) .normal st = Lk P Q d l k st (hv st (.mk e m b z x y)) := rfl
theorem o_asg (d : Nat) (x : Opd) (l : List POp) : go P Q (.o (⟨d, .asg x, none⟩ :: l) :: k) .normal st = Ef P Q l k (ev st d (.asg x)) := rfl
theorem o_app (d : Nat) (e m b : Nat) (x y : Opd) (l : List POp) : go P Q (.o (⟨d, .app e m b x y, none⟩ :: l) :: k) .normal st = Ef P Q l k (ev st d (.app e m b x y)) := rfl
theorem o_appa (d : Nat) (e m b : Nat) (x y : Opd) (avoid : List Nat) (l : List POp) : go P Q (.o (⟨d, .appa e m b x y avoid, none⟩ :: l) :: k) .normal st = (noAv avoid (view st x) ∧ Ef P Q l k (ev st d (.app e m b x y))) := by
  refine propext ⟨?_, ?_⟩
  · rintro ⟨h0, h1⟩; exact ⟨noav_is.2 h0, h1⟩
  · rintro ⟨h0, h1⟩; exact ⟨noav_is.1 h0, h1⟩
theorem o_store (d : Nat) (x y : Opd) (l : List POp) : go P Q (.o (⟨d, .store x y, none⟩ :: l) :: k) .normal st = Ef P Q l k (ev st d (.store x y)) := rfl
theorem o_stores (d : Nat) (j : Nat) (x y : Opd) (l : List POp) : go P Q (.o (⟨d, .stores j x y, none⟩ :: l) :: k) .normal st = Ef P Q l k (ev st d (.stores j x y)) := rfl

/-! ### Loops -/
theorem loopS {ι : Type} {c : PCode} (T : ι → ASt) (p : ι → Prop) (μ : ι → Nat) (i0 : ι) (hw : Weak st (T i0)) (h0 : p i0)
    (round : ∀ J : ASt → Nat → Prop, (∀ i, p i → J (T i) (μ i)) → ∀ i, p i → go P Q (.c c :: .l J (μ i) :: k) .normal (T i)) : go P Q (.c (.loop c) :: k) .normal st := by
  refine ⟨fun st m => ∃ i, st = T i ∧ p i ∧ m = μ i, ⟨T i0, μ i0, hw, i0, rfl, h0, rfl⟩, ?_⟩
  rintro st' m ⟨i, rfl, hp, rfl⟩
  have := round (fun st m => ∃ i, st = T i ∧ p i ∧ m = μ i) (fun i hp => ⟨i, rfl, hp, rfl⟩) i hp
  have e : go P Q (.l (fun st m => ∃ i, st = T i ∧ p i ∧ m = μ i) (μ i) :: k) = seqQ (fun st'' => ∃ st3 m3, Weak st'' st3 ∧ (∃ i, st3 = T i ∧ p i ∧ m3 = μ i) ∧ m3 < μ i) (go P Q k) := by
    funext x st
    cases x <;> rfl
  rw [← e]
  exact this
theorem again {ι : Type} {T : ι → ASt} {p : ι → Prop} {μ : ι → Nat} {J : ASt → Nat → Prop} {m : Nat} (hJ : ∀ i, p i → J (T i) (μ i)) (i : ι) (hw : Weak st (T i)) (hp : p i) (hm : μ i < m) : go P Q (.l J m :: k) .normal st := ⟨T i, μ i, hw, hJ i hp, hm⟩

/-- The slots, written out. -/
def mk : List (Nat × AV) → ASt
  | [] => fun _ => .junk
  | (d, av) :: l => fun k => if k = d then av else mk l k
theorem mk_at (d k : Nat) (av : AV) (l : List (Nat × AV)) : mk ((d, av) :: l) k = if k = d then av else mk l k := rfl
theorem mk_nil (k : Nat) : mk [] k = .junk := rfl
def wkAll (st st' : ASt) : List (Nat × AV) → Prop
  | [] => True
  | (d, av) :: l => wk1 st st' (st d) av ∧ wkAll st st' l
theorem weak_mk {l : List (Nat × AV)} (h : wkAll st (mk l) l) : Weak st (mk l) := by
  refine weak_of fun k => ?_
  have key : ∀ (l' : List (Nat × AV)), wkAll st (mk l) l' → wk1 st (mk l) (st k) (mk l' k) := by
    intro l'
    induction l' with
    | nil => intro _; trivial
    | cons p l' ih =>
      obtain ⟨d, av⟩ := p
      intro h
      rw [mk_at]
      split
      · rename_i hk; subst hk; exact h.1
      · exact ih h.2
  exact key l h
theorem wk_cons (st' : ASt) (d : Nat) (av : AV) (l : List (Nat × AV)) : wkAll st st' ((d, av) :: l) = (wk1 st st' (st d) av ∧ wkAll st st' l) := rfl
theorem wk_nil (st' : ASt) : wkAll st st' [] = True := rfl
/-- What a slot holds, where v is seen as the row that it leads to. -/
def unhCells (v : Value) (xs : List (List AV)) : List AV → List AV → Prop
  | [], [] => True
  | x :: r, y :: s => (x = y ∨ (x = .val v ∧ y = .ro xs)) ∧ unhCells v xs r s
  | _, _ => False
def unh1 (v : Value) (xs : List (List AV)) : AV → AV → Prop
  | .box cs, .box ds => unhCells v xs cs ds
  | .val u, .ro ys => u = v ∧ ys = xs
  | x, y => x = y ∧ y.isRef = false
def unhAll (v : Value) (xs : List (List AV)) (st : ASt) (g : Nat) : List (Nat × AV) → Prop
  | [] => True
  | (d, av) :: l => d ≠ g ∧ unh1 v xs (st d) av ∧ unhAll v xs st g l
theorem unhCells_at {v : Value} {xs : List (List AV)} : ∀ {cs ds : List AV}, unhCells v xs cs ds → cs.length = ds.length ∧ ∀ (i : Nat) (av : AV), ds[i]? = some av → cs[i]? = some av ∨ (cs[i]? = some (.val v) ∧ av = .ro xs)
  | [], [], _ => ⟨rfl, by simp⟩
  | [], _ :: _, h => h.elim
  | _ :: _, [], h => h.elim
  | x :: r, y :: s, h => by
    obtain ⟨h1, h2⟩ := unhCells_at h.2
    refine ⟨by simp [h1], fun i av hi => ?_⟩
    cases i with
    | zero =>
      simp only [List.getElem?_cons_zero, Option.some.injEq] at hi ⊢
      subst hi
      exact h.1
    | succ i => simpa using h2 i av (by simpa using hi)
theorem weak_unhold {l : List (Nat × AV)} {g e m : Nat} {xs : List (List AV)} {v : Value} (hg : st g = .held e m xs v) (h : unhAll v xs st g l) : Weak st (mk l) := by
  have key : ∀ (l' : List (Nat × AV)) (k : Nat), unhAll v xs st g l' → mk l' k = .junk ∨ (k ≠ g ∧ unh1 v xs (st k) (mk l' k)) := by
    intro l' k
    induction l' with
    | nil => intro _; exact .inl rfl
    | cons p l' ih =>
      obtain ⟨d, av⟩ := p
      intro h
      rw [mk_at]
      split
      · rename_i hk; subst hk; exact .inr ⟨h.1, h.2.1⟩
      · exact ih h.2.2
  intro w0 S n β a w hf
  let β' : Bt := fun k => if (mk l k).isHome = true then β k else none
  have hβ : ∀ k b, β' k = some b → (mk l k).isHome = true ∧ β k = some b := fun k b hb => by
    simp only [β'] at hb
    split at hb
    · exact ⟨by assumption, hb⟩
    · cases hb
  have hI : ∀ b, Imm S w0 w β b → Imm S w0 w β' b := fun b hb => by
    rcases hb with hb | hb
    · exact .inl hb
    · exact .inr ⟨hb.1, hb.2.1, fun k hk => hb.2.2 k (hβ k b hk).2⟩
  have hs := hf.slot g
  rw [hg] at hs
  have hown : OwnAt w w0.base (Imm S w0 w β) e m xs v (β g) := hs
  have hmg : mk l g = .junk := by
    rcases key l g h with q | q
    · exact q
    · exact absurd rfl q.1
  have hfree : ∀ b, β g = some b → Imm S w0 w β' b := fun b hb => by
    obtain ⟨_, h2, h3⟩ := hf.home g b hb
    refine .inr ⟨h2, h3, fun j hj => ?_⟩
    obtain ⟨q1, q2⟩ := hβ j b hj
    have := hf.inj j g b q2 hb
    subst this
    rw [hmg] at q1; cases q1
  have hro : Rel w (Imm S w0 w β') (.ro xs) v := own_ro (OwnAt.mono (w := w) hI (fun _ _ _ => rfl) (fun _ _ => rfl) hown) hfree
  refine ⟨β', hf.below, hf.base, hf.given, hf.old, hf.size, hf.pin, hf.defers, fun k b hk => ?_, fun i j b hi hj => hf.inj i j b (hβ i b hi).2 (hβ j b hj).2, fun k => ?_⟩
  · obtain ⟨q1, q2⟩ := hβ k b hk
    exact ⟨q1, (hf.home k b q2).2⟩
  · rcases key l k h with q | ⟨_, q⟩
    · rw [q]; exact Rel.junk _
    have hk := hf.slot k
    have same : (mk l k).isHome = true → β' k = β k := fun hh => by simp only [β', hh, if_true]
    revert q hk same
    generalize mk l k = y
    generalize st k = x
    intro q hk same
    unfold unh1 at q
    split at q
    · rename_i cs ds
      obtain ⟨h1, h2⟩ := unhCells_at q
      have hb : BoxAt w w0.base (Imm S w0 w β) cs (a.tmps.getD k undef) (β k) := hk
      obtain ⟨b, t, cur, r1, r2, r3, r4, r5, r6, r7⟩ := hb
      simp only [SlotRel]
      rw [same rfl]
      refine ⟨b, t, cur, r1, r2, r3, r4, by omega, r6, fun j av hj => ?_⟩
      rcases h2 j av hj with z | ⟨z1, rfl⟩
      · exact (r7 j av z).mono hI (fun _ _ _ => rfl)
      · have := r7 j _ z1
        have e : cur.getD j undef = v := by
          revert this
          generalize cur.getD j undef = u
          intro this; cases this; rfl
        rw [e]; exact hro
    · rename_i u ys
      obtain ⟨rfl, rfl⟩ := q
      have hk' : Rel w (Imm S w0 w β) (.val u) (a.tmps.getD k undef) := hk
      have e : a.tmps.getD k undef = u := by
        revert hk'
        generalize a.tmps.getD k undef = z
        intro hk'; cases hk'; rfl
      show Rel w (Imm S w0 w β') (.ro ys) (a.tmps.getD k undef)
      rw [e]; exact hro
    · obtain ⟨rfl, hr⟩ := q
      revert hk hr same
      cases x <;> simp only [SlotRel, AV.isRef] <;> intro hk same hr
      case own e' m' ys => rw [same rfl]; exact OwnAt.mono (w := w) hI (fun _ _ _ => rfl) (fun _ _ => rfl) hk
      case box cs => rw [same rfl]; exact BoxAt.mono (w := w) hI (fun _ _ _ => rfl) (fun _ _ => rfl) hk
      case held e' m' ys u => rw [same rfl]; exact OwnAt.mono (w := w) hI (fun _ _ _ => rfl) (fun _ _ => rfl) hk
      all_goals first | exact hk.mono hI (fun _ _ _ => rfl) | cases hr
theorem unh_cons (v : Value) (xs : List (List AV)) (g d : Nat) (av : AV) (l : List (Nat × AV)) : unhAll v xs st g ((d, av) :: l) = (d ≠ g ∧ unh1 v xs (st d) av ∧ unhAll v xs st g l) := rfl
theorem unh_nil (v : Value) (xs : List (List AV)) (g : Nat) : unhAll v xs st g [] = True := rfl
theorem weak_refl : Weak st st := fun _ _ _ β _ _ h => ⟨β, h⟩
end

/-! ### Functions -/
def okFunc (P : Program) (f : Nat) (rs : List RV) (na : Nat) (pc : PCode) : Bool := match P.funcs[f]? with
  | some fn => (match fn.body with
    | some b => okCode P ⟨fn.ntmps, 0⟩ b pc
    | none => false) && okRes P fn.results.toList rs && decide (na ≤ fn.ntmps)
  | none => false
/-- What holds at a function's end. -/
def Done (rs : List RV) (res : AV) (x : PX) (st : ASt) : Prop := (x = .normal ∨ x = .ret) ∧ Fin st rs res
theorem done_ret {rs : List RV} {res : AV} {st : ASt} (h : Fin st rs res) : Done rs res .ret st := ⟨.inr rfl, h⟩
theorem call_of {P : Program} (hm : P.follows .mixedOrders = true) {f na : Nat} {rs : List RV} {pc : PCode} (hok : okFunc P f rs na pc = true) {args : List AV} {res : AV} (hn : args.length = na) (h : go P (Done rs res) [.c pc] .normal (initSt args)) : CallOK P f args res := by
  unfold okFunc at hok
  split at hok
  · rename_i fn hf
    simp only [Bool.and_eq_true, decide_eq_true_eq] at hok
    obtain ⟨⟨h1, h2⟩, h3⟩ := hok
    split at h1
    · rename_i b hb
      refine call_of_code hm hf hb (rs := rs) h2 (by omega) h1 ?_
      have e : go P (Done rs res) [] = fun x st => (x = .normal ∨ x = .ret) ∧ Fin st rs res := by
        funext x st
        cases x <;> rfl
      rw [← e]
      exact h
    · cases h1
  · cases hok

/-- What holds at the end of a function whose result has a slice in it that nobody else has. -/
def DoneH (q n e m : Nat) (xs : List (List AV)) (res : Value → AV) (x : PX) (st : ASt) : Prop := (x = .normal ∨ x = .ret) ∧ ∃ g r, st g = .held e m xs r ∧ (hv st (.loads n (.t q))).1 ∧ (hv st (.loads n (.t q))).2 = res r
theorem doneh_ret {q n e m : Nat} {xs : List (List AV)} {res : Value → AV} {st : ASt} (g : Nat) (r : Value) (hg : st g = .held e m xs r) (h1 : (hv st (.loads n (.t q))).1) (h2 : (hv st (.loads n (.t q))).2 = res r) : DoneH q n e m xs res .ret st := ⟨.inr rfl, g, r, hg, h1, h2⟩
theorem callh_of {P : Program} (hm : P.follows .mixedOrders = true) {f na q n e m : Nat} {pc : PCode} (hok : okFunc P f [.c q n] na pc = true) {args : List AV} {xs : List (List AV)} {res : Value → AV} (hn : args.length = na) (h : go P (DoneH q n e m xs res) [.c pc] .normal (initSt args)) : CallH P f args e m xs res := by
  unfold okFunc at hok
  split at hok
  · rename_i fn hf
    simp only [Bool.and_eq_true, decide_eq_true_eq] at hok
    obtain ⟨⟨h1, h2⟩, h3⟩ := hok
    split at h1
    · rename_i b hb
      refine callh_of_code hm hf hb h2 (by omega) h1 ?_
      have e : go P (DoneH q n e m xs res) [] = fun x st => (x = .normal ∨ x = .ret) ∧ ∃ g r, st g = .held e m xs r ∧ (hv st (.loads n (.t q))).1 ∧ (hv st (.loads n (.t q))).2 = res r := by
        funext x st
        cases x <;> rfl
      rw [← e]
      exact h
    · cases h1
  · cases hok

/-- The code of a function whose slot 0 is never written. -/
def okFunc1 (P : Program) (f : Nat) (rs : List RV) (na : Nat) (pc : PCode) : Bool := match P.funcs[f]? with
  | some fn => (match fn.body with
    | some b => okCode P ⟨fn.ntmps, 1⟩ b pc
    | none => false) && okRes P fn.results.toList rs && decide (na ≤ fn.ntmps)
  | none => false
/-- What holds at the end of a function that has turned what it got. -/
def DoneT (rs : List RV) (a1 res : AV) (x : PX) (st : ASt) : Prop := Done rs res x st ∧ st 0 = a1
theorem home_lt {w : World} {base : Nat} {I : Nat → Prop} {av : AV} {v : Value} {bo : Option Nat} (h : HomeAt w base I av v bo) {g : Nat} (hg : bo = some g) : base ≤ g ∧ g < w.heap.size := by
  revert h
  cases av <;> simp only [HomeAt] <;> intro h
  case own e m xs =>
    obtain ⟨cells, hown, _, _, hbo, _⟩ := h
    exact hown.lt g (hbo.trans hg)
  case box cs =>
    obtain ⟨g', t, cur, h1, h2, _, h4, _⟩ := h
    obtain rfl : g = g' := by rw [hg] at h1; injection h1
    exact ⟨h2, (Array.getElem?_eq_some_iff.1 h4).1⟩
  all_goals exact h.elim
theorem home_is {w : World} {base : Nat} {I : Nat → Prop} {av : AV} {v : Value} {bo : Option Nat} (h : HomeAt w base I av v bo) : av.isHome = true := by
  revert h
  cases av <;> simp only [HomeAt] <;> intro h <;> first | rfl | exact h.elim
theorem home_mono {w : World} {base : Nat} {I I' : Nat → Prop} {av : AV} {v : Value} {bo : Option Nat} (hI : ∀ b, I b → I' b) (h : HomeAt w base I av v bo) : HomeAt w base I' av v bo := by
  revert h
  cases av <;> simp only [HomeAt] <;> intro h
  case own => exact OwnAt.mono (w := w) hI (fun _ _ _ => rfl) (fun _ _ => rfl) h
  case box => exact BoxAt.mono (w := w) hI (fun _ _ _ => rfl) (fun _ _ => rfl) h
  all_goals exact h.elim
/-- Where the value is the same, so is the block. -/
theorem home_bo {w w' : World} {base base' : Nat} {I I' : Nat → Prop} {av av' : AV} {v : Value} {bo bo' : Option Nat} (h : HomeAt w base I av v bo) (h' : HomeAt w' base' I' av' v bo') : bo = bo' := by
  have key : ∀ {w : World} {base : Nat} {I : Nat → Prop} {av : AV} {v : Value} {bo : Option Nat}, HomeAt w base I av v bo → bo = v.ownBlock ∨ ∃ g, v = .pointer (some ⟨g, 0, none⟩) ∧ bo = some g := by
    intro w base I av v bo h
    revert h
    cases av <;> simp only [HomeAt] <;> intro h
    case own e m xs =>
      obtain ⟨_, _, _, _, hbo, _⟩ := h
      exact .inl hbo.symm
    case box cs =>
      obtain ⟨g, _, _, h1, _, h3, _⟩ := h
      exact .inr ⟨g, h3, h1⟩
    all_goals exact h.elim
  have own_not : ∀ {w : World} {base : Nat} {I : Nat → Prop} {av : AV} {g : Nat} {bo : Option Nat}, HomeAt w base I av (.pointer (some ⟨g, 0, none⟩)) bo → bo = some g := by
    intro w base I av g bo h
    revert h
    cases av <;> simp only [HomeAt] <;> intro h
    case own e m xs =>
      obtain ⟨cells, hown, _⟩ := h
      rcases hown.2 with ⟨hv, _⟩ | ⟨g', cap, cur, hv, _⟩ <;> cases hv
    case box cs =>
      obtain ⟨g', _, _, h1, _, h3, _⟩ := h
      injection h3 with h3; injection h3 with h3; injection h3 with h3
      rw [h1, h3]
    all_goals exact h.elim
  rcases key h with h1 | ⟨g, rfl, h1⟩
  · rcases key h' with h2 | ⟨g, rfl, h2⟩
    · rw [h1, h2]
    · rw [own_not h, h2]
  · rw [own_not h', h1]
theorem home_fr {fn : Func} {w : World} {base : Nat} {S : Nat → Prop} {v0 : Value} {bo : Option Nat} {vs : List Value} {a0 : AV} {args : List AV} {pin : Option Value} {lo : Nat} (hS : ∀ b, S b → b < w.heap.size ∧ bo ≠ some b) (hbase : base ≤ w.heap.size) (h0 : HomeAt w base S a0 v0 bo)
    (hvl : vs.length = args.length) (hvr : ∀ (j : Nat) av v, args[j]? = some av → vs[j]? = some v → Rel w S av v) (hn : args.length + 1 ≤ fn.ntmps) (hpin : ∀ v, pin = some v → 0 < lo ∧ v0 = v) (ht : TabB w base) :
    FR ⟨w, base, bo, pin, ht⟩ S ⟨fn.ntmps, lo⟩ (initSt (a0 :: args)) (fun k => if k = 0 then bo else none) { tmps := tmps0 fn.ntmps (v0 :: vs), defers := [] } w := by
  refine ⟨Past.refl _ _, hbase, fun g hg => home_lt h0 hg, hS, tmps0_size (by simp only [List.length_cons]; omega), fun v hv => ?_, rfl, fun k g hg => ?_, fun i j g hi hj => ?_, fun k => ?_⟩
  · obtain ⟨h1, h2⟩ := hpin v hv
    exact ⟨h1, (tmps0_at _ _ _).trans h2⟩
  · by_cases hk : k = 0
    · subst hk
      simp only [if_pos] at hg
      exact ⟨home_is h0, .inl hg, (home_lt h0 hg).2⟩
    · simp [hk] at hg
  · by_cases h1 : i = 0 <;> by_cases h2 : j = 0 <;> simp [h1, h2] at hi hj ⊢
  · cases k with
    | zero =>
      have := home_mono (I' := Imm S ⟨w, base, bo, pin, ht⟩ w fun k => if k = 0 then bo else none) (fun b hb => .inl hb) h0
      show SlotRel _ _ _ _ _ _ a0 0
      revert this
      cases a0 <;> simp only [HomeAt, SlotRel, tmps0_at, if_pos] <;> intro this <;> first | exact this | exact this.elim
    | succ k =>
      refine rel_slot ?_
      rw [tmps0_at]
      have := (init_rel (n := fn.ntmps) hvl hvr k).mono (w' := w) (I' := Imm S ⟨w, base, bo, pin, ht⟩ w fun k => if k = 0 then bo else none) (fun b hb => .inl hb) (fun _ _ _ => rfl)
      rw [tmps0_at] at this
      exact this
theorem go_end {P : Program} {Q : PX → ASt → Prop} : go P Q [] = Q := by
  funext x st
  cases x <;> rfl
/-- A function that takes a row of the caller's own. -/
theorem take_of {P : Program} (hm : P.follows .mixedOrders = true) {f na e m : Nat} {xs : List (List AV)} {rs : List RV} {pc : PCode} (hok : okFunc P f rs na pc = true) {args : List AV} {res : AV} (hn : args.length + 1 = na) (hfl : ∀ e m ys, res = .own e m ys → res.FlatRes)
    (h : go P (Done rs res) [.c pc] .normal (initSt (.own e m xs :: args))) : TakeOK P f e m xs args res := by
  unfold okFunc at hok
  split at hok
  · rename_i fn hf
    simp only [Bool.and_eq_true, decide_eq_true_eq] at hok
    obtain ⟨⟨h1, h2⟩, h3⟩ := hok
    split at h1
    · rename_i b hb
      intro w base S v0 bo vs ht hS hbase h0 hvl hvr
      have hF := home_fr (fn := fn) (a0 := .own e m xs) (args := args) (pin := none) (lo := 0) hS hbase h0 hvl hvr (by omega) (fun v hv => by cases hv) ht
      refine (code_of (w0 := ⟨w, base, bo, none, ht⟩) (S := S) (Q := Done rs res) hm hf hb h2 h1 (fun _ _ hq => hq) (by rw [← go_end (P := P) (Q := Done rs res)]; exact h) hF).mono ?_
      rintro ev w' ⟨v, x, st, β, a', rfl, hf', _, hres⟩
      refine ⟨v, rfl, hf'.below, ?_⟩
      revert hres
      cases hr : res <;> simp only [EndRel, TakeRes] <;> intro hres
      case own e' m' ys =>
        have hflat := hfl e' m' ys hr
        rw [hr] at hflat
        refine ⟨fun g hg => (hres.1 g hg).1.imp id fun q => ⟨q, (hres.1 g hg).2⟩, ?_⟩
        obtain ⟨cells, k1, k2, k3, k4, k5, k6, k7⟩ := hres.2
        refine ⟨cells, k1, k2, k3, k4, k5, k6, fun j av hj => (k7 j av hj).flat ?_⟩
        have hmem := List.mem_of_getElem? hj
        rw [List.mem_flatten] at hmem
        obtain ⟨x, hx, hav⟩ := hmem
        exact hflat x hx av hav
      all_goals exact hres.mono (fun b hb => by
        rcases hb with hb | ⟨hb | hb, hb2⟩
        · exact .inl hb
        · exact .inr (.inl hb)
        · exact .inr (.inr ⟨hb, hb2⟩)) (fun _ _ _ => rfl)
    · cases h1
  · cases hok
/-- A row or a variable. -/
def AV.isOB : AV → Bool
  | .own _ _ _ | .box _ => true
  | _ => false
/-- A function that turns something of the caller's own. -/
theorem turn_of {P : Program} (hm : P.follows .mixedOrders = true) {f na : Nat} {a0 a1 : AV} {rs : List RV} {pc : PCode} (hok : okFunc1 P f rs na pc = true) {args : List AV} {res : AV} (hn : args.length + 1 = na) (hfl : res.Flat) (ha : a1.isOB = true)
    (h : go P (DoneT rs a1 res) [.c pc] .normal (initSt (a0 :: args))) : TurnOK P f a0 a1 args res := by
  unfold okFunc1 at hok
  split at hok
  · rename_i fn hf
    simp only [Bool.and_eq_true, decide_eq_true_eq] at hok
    obtain ⟨⟨h1, h2⟩, h3⟩ := hok
    split at h1
    · rename_i b hb
      intro w base S v0 bo vs ht hS hbase h0 hvl hvr
      have hF := home_fr (fn := fn) (a0 := a0) (args := args) (pin := some v0) (lo := 1) hS hbase h0 hvl hvr (by omega) (fun v hv => by injection hv with hv; exact ⟨by omega, hv⟩) ht
      refine (code_of (w0 := ⟨w, base, bo, some v0, ht⟩) (S := S) (Q := DoneT rs a1 res) hm hf hb h2 h1 (fun _ _ hq => hq.1) (by rw [← go_end (P := P) (Q := DoneT rs a1 res)]; exact h) hF).mono ?_
      rintro ev w' ⟨v, x, st, β, a', rfl, hf', ⟨_, hst⟩, hres⟩
      have hs := hf'.slot 0
      rw [hst] at hs
      have hv0 := (hf'.pin v0 rfl).2
      have hh : HomeAt w' base (Imm S ⟨w, base, bo, some v0, ht⟩ w' β) a1 v0 (β 0) := by
        rw [← hv0]
        revert hs ha
        cases a1 <;> simp only [HomeAt, SlotRel] <;> intro ha hs <;> first | exact hs | cases ha
      have hbo : bo = β 0 := home_bo h0 hh
      refine ⟨v, rfl, hf'.below, ?_, ?_⟩
      · rw [← hbo] at hh
        refine home_mono (fun b hb => ?_) hh
        rcases hb with hb | ⟨hb | hb, hb2, hb3⟩
        · exact .inl hb
        · exact absurd (hbo ▸ hb) (hb3 0)
        · exact .inr ⟨hb, hb2, hbo ▸ hb3 0⟩
      · cases res <;> first | exact Rel.flat hres hfl | cases hfl
    · cases h1
  · cases hok

/-! ### The end of a walk; small rules -/
section
variable {st : ASt} {rs : List RV}
theorem done_eq (res : AV) : Done rs res .ret st = Fin st rs res := propext ⟨fun h => h.2, fun h => ⟨.inr rfl, h⟩⟩
theorem done_eq' (res : AV) : Done rs res .normal st = Fin st rs res := propext ⟨fun h => h.2, fun h => ⟨.inl rfl, h⟩⟩
theorem donet_eq (a1 res : AV) : DoneT rs a1 res .ret st = (Fin st rs res ∧ st 0 = a1) := propext ⟨fun h => ⟨h.1.2, h.2⟩, fun h => ⟨⟨.inr rfl, h.1⟩, h.2⟩⟩
theorem donet_eq' (a1 res : AV) : DoneT rs a1 res .normal st = (Fin st rs res ∧ st 0 = a1) := propext ⟨fun h => ⟨h.1.2, h.2⟩, fun h => ⟨⟨.inl rfl, h.1⟩, h.2⟩⟩
theorem fin_val (v : Value) : Fin st rs (.val v) = ((∀ r ∈ rs, (r.pr st).1) ∧ resAV st rs = .val v) := rfl
theorem fin_tup (vs : List AV) : Fin st rs (.tup vs) = ((∀ r ∈ rs, (r.pr st).1) ∧ resAV st rs = .tup vs) := rfl
theorem fin_agg (vs : List AV) : Fin st rs (.agg vs) = ((∀ r ∈ rs, (r.pr st).1) ∧ resAV st rs = .agg vs) := rfl
theorem fin_ro (xs : List (List AV)) : Fin st rs (.ro xs) = ((∀ r ∈ rs, (r.pr st).1) ∧ resAV st rs = .ro xs) := rfl
theorem fin_own {e m r d : Nat} {xs : List (List AV)} (h1 : view st (.t r) = .alias d) (h2 : st d = .own e m xs) : Fin st [.t r] (.own e m xs) := ⟨r, rfl, .inl ⟨d, h1, h2⟩⟩
theorem fin_ownz {e m r : Nat} (h : st r = .nilsl) (hm : 0 < m) : Fin st [.t r] (.own e m []) := ⟨r, rfl, .inr ⟨h, rfl, hm⟩⟩
theorem res_one (r : RV) : resAV st [r] = (r.pr st).2 := rfl
theorem res_more (r s : RV) (t : List RV) : resAV st (r :: s :: t) = .tup ((r :: s :: t).map fun r => (r.pr st).2) := rfl
theorem rv_t (r : Nat) : (RV.t r).pr st = (True, argv st (view st (.t r))) := rfl
theorem rv_c (r n : Nat) : (RV.c r n).pr st = hv st (.loads n (.t r)) := rfl
theorem rv_l (r : Nat) : (RV.l r).pr st = hv st (.load (.t r)) := rfl
theorem int_eq {k : IntKind} {a b : Int} : (AV.val (.int k a) = AV.val (.int k b)) = (a = b) := by simp
theorem vint_eq {k : IntKind} {a b : Int} : (Value.int k a = Value.int k b) = (a = b) := by simp
theorem vbool_eq {a b : Bool} : (Value.bool a = Value.bool b) = (a = b) := by simp
theorem bool_eq {a b : Bool} : (AV.val (.bool a) = AV.val (.bool b)) = (a = b) := by simp
end
/-! ### What a slot's view is, said so that the kernel need not look into other slots' values -/
def AV.look (k : Nat) : AV → AV
  | .own _ _ _ => .alias k
  | .box _ => .ref k 0
  | .held _ _ _ _ => .junk
  | av => av
theorem view_t (st : ASt) (k : Nat) : view st (.t k) = (st k).look k := by rw [view]; cases st k <;> rfl
theorem view_c (st : ASt) (v : Value) : view st (.c v) = .val v := by rw [view]
theorem view_nil (st : ASt) : view st .nil = .nilsl := by rw [view]
theorem view_fn (st : ASt) (f : Nat) : view st (.fn f) = .val (.func (.func f) #[] #[]) := by rw [view]
theorem look_own (k e m : Nat) (xs : List (List AV)) : (AV.own e m xs).look k = .alias k := by rw [AV.look]
theorem look_box (k : Nat) (cs : List AV) : (AV.box cs).look k = .ref k 0 := by rw [AV.look]
theorem look_held (k e m : Nat) (xs : List (List AV)) (v : Value) : (AV.held e m xs v).look k = .junk := by rw [AV.look]
theorem look_fnv (k : Nat) (f : FuncId) (cs : List AV) : (AV.fnv f cs).look k = AV.fnv f cs := by rw [AV.look] <;> intros <;> contradiction
theorem look_junk (k : Nat)  : (AV.junk).look k = AV.junk := by rw [AV.look] <;> intros <;> contradiction
theorem look_val (k : Nat) (v : Value) : (AV.val v).look k = AV.val v := by rw [AV.look] <;> intros <;> contradiction
theorem look_nilsl (k : Nat)  : (AV.nilsl).look k = AV.nilsl := by rw [AV.look] <;> intros <;> contradiction
theorem look_ro (k : Nat) (xs : List (List AV)) : (AV.ro xs).look k = AV.ro xs := by rw [AV.look] <;> intros <;> contradiction
theorem look_roAt (k : Nat) (cs : List AV) (o : Nat) : (AV.roAt cs o).look k = AV.roAt cs o := by rw [AV.look] <;> intros <;> contradiction
theorem look_agg (k : Nat) (cs : List AV) : (AV.agg cs).look k = AV.agg cs := by rw [AV.look] <;> intros <;> contradiction
theorem look_tup (k : Nat) (cs : List AV) : (AV.tup cs).look k = AV.tup cs := by rw [AV.look] <;> intros <;> contradiction
theorem look_clo (k : Nat) (f : FuncId) (ds : List Nat) : (AV.clo f ds).look k = AV.clo f ds := by rw [AV.look] <;> intros <;> contradiction
theorem look_alias (k : Nat) (d : Nat) : (AV.alias d).look k = AV.alias d := by rw [AV.look] <;> intros <;> contradiction
theorem look_ref (k : Nat) (d o : Nat) : (AV.ref d o).look k = AV.ref d o := by rw [AV.look] <;> intros <;> contradiction
theorem look_into (k : Nat) (d i o : Nat) : (AV.into d i o).look k = AV.into d i o := by rw [AV.look] <;> intros <;> contradiction
theorem getD_map {α β : Type} {f : α → β} {l : List α} {k : Nat} {d : β} (h : k < l.length) : (l.map f).getD k d = f l[k] := by
  rw [List.getD_eq_getElem?_getD, List.getElem?_map, List.getElem?_eq_getElem h]; rfl
theorem toNat_pred (k : Nat) : ((k : Int) - 1).toNat = k - 1 := by omega
theorem toNat_succ (k : Nat) : ((k : Int) + 1).toNat = k + 1 := by omega
theorem wrap_in {n : Int} (h1 : -9223372036854775808 ≤ n) (h2 : n ≤ 9223372036854775807) : IntKind.i64.wrap n = n := by
  rw [IntKind.wrap_i64]; omega
end Go.Proofs.Ytpecmhdepggnoaa
