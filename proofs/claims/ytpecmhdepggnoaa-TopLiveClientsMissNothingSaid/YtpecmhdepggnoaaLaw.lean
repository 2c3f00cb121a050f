/- The frame of a law's proof, once for all laws: where the call hands back true and only makes new memory, the given row holds. And arguments opened to lists. -/
import Derived.Test.YtpecmhdepggnoaaOwn
import Derived.ProofKit
import Derived.OpenShut
import Derived.Lib.SmallJoins
import Derived.Deep.Slices
import Derived.Deep.Fields
namespace Go.Proofs.Ytpecmhdepggnoaa
open Go.ChangeShapes Go.WideShapes Go.ChangeAt Go.RowKit Go.Deep

set_option maxRecDepth 100000

theorem own_knob : ownKnob Try.prog.godebug = none := by kernel_rfl
theorem laid_out : laidOutB Try.prog = true := by kernel_rfl

section
variable {H : Type} {enc : TypeId × Value → H} {P : Program}
theorem trodAll_stays (hl : laidOutB P = true) {W W' : World} {sp' : Nat → Bool} : ∀ {ts : List TypeId} {vs : List Value} {ds : List (DataW H)} {ps : List MemPlace}, (∀ t ∈ ts, P.readableRec t = true ∧ t < P.types.size) →
    DataW.TrodAll enc P W 0 (fun _ => true) true ts vs ds ps → (∀ p ∈ ps, W.sameAt W' p) → (∀ p ∈ ps, sp' p.block = true) → DataW.TrodAll enc P W' 0 sp' true ts vs ds ps
  | [], [], [], _, _, h, _, _ => h
  | t :: ts, v :: vs, d :: ds, ps, ht, h, hs, hp => by
    obtain ⟨p, q, h1, h2, rfl⟩ := h
    obtain ⟨r1, r2⟩ := ht t (by simp)
    exact ⟨p, q, WideElems.Trod_stays hl r1 r2 h1 (fun x hx => hs x (by simp [hx])) (fun x hx => hp x (by simp [hx])),
      trodAll_stays hl (fun t h => ht t (by simp [h])) h2 (fun x hx => hs x (by simp [hx])) (fun x hx => hp x (by simp [hx])), rfl⟩
  | [], [], _ :: _, _, _, h, _, _ => h.elim
  | [], _ :: _, _, _, _, h, _, _ => h.elim
  | _ :: _, [], _, _, _, h, _, _ => h.elim
  | _ :: _, _ :: _, [], _, _, h, _, _ => h.elim

theorem trodAll_len {w : World} {base : Nat} {spare : Nat → Bool} {held : Bool} : ∀ {ts : List TypeId} {vs : List Value} {ds : List (DataW H)} {ps : List MemPlace}, DataW.TrodAll enc P w base spare held ts vs ds ps → ds.length = ts.length
  | [], [], [], _, _ => rfl
  | t :: ts, v :: vs, d :: ds, ps, h => by
    obtain ⟨_, _, _, h2, _⟩ := h
    simp [trodAll_len h2]
  | [], [], _ :: _, _, h => h.elim
  | [], _ :: _, _, _, h => h.elim
  | _ :: _, [], _, _, h => h.elim
  | _ :: _, _ :: _, [], _, h => h.elim

theorem post_of_below {f : Func} {s : ChangeSpec} {apart fresh handsOn again : Bool} {W W' : World} {args : Array Value} {v : Value} {ds gs : List (DataW H)} {before pa pv : List MemPlace}
    (hW : DataW.Whole enc P f.params.toList s.vars apart W args.toList ds gs before)
    (hres : ∀ (b : Nat) (sp : Nat → Bool) (hd : Bool), DataW.TrodAll enc P W' b sp hd f.resultTypes.toList (v.resultList f.resultTypes.size) (s.fn H (ds ++ gs)).results [])
    (hargs : ∀ sp : Nat → Bool, (∀ p ∈ before, sp p.block = true) → DataW.TrodAll enc P W' 0 sp true f.params.toList args.toList (s.fn H (ds ++ gs)).args pa)
    (hvars : ∀ sp : Nat → Bool, (∀ p ∈ before, sp p.block = true) → DataW.TrodVars enc P W' sp s.vars (s.fn H (ds ++ gs)).vars pv)
    (hps : before = pa ++ pv) (hb : Below W.heap.size W W')
    (hok : ∀ (j : Nat) (t : TypeId) (r : Value), f.resultTypes[j]? = some t → (v.resultList f.resultTypes.size)[j]? = some r → Value.okWide P W' .any 0 t r) :
    s.post enc P f apart fresh handsOn again W args v W' := by
  have hlt : ∀ p ∈ before, p.block < W.heap.size := fun p hp => hW.lt p hp
  have hold : ∀ p ∈ before, (fun b => decide (b < W.heap.size)) p.block = true := fun p hp => by simpa using hlt p hp
  refine ⟨ds, gs, before, [], pa, pv, hW, hres _ _ _, hargs _ hold, hvars _ hold, World.keptBut_mono (fun p hp => ⟨hp, ?_⟩) (hb.frame (· ∈ before)), fun _ => ?_⟩
  · rw [hps, List.mem_append] at hp
    exact Or.inr hp
  · obtain ⟨_, _, _, _, _, hz, hn⟩ := hW
    refine ⟨hok, _, _, ([] ++ pa) ++ pv, ⟨[] ++ pa, pv, trodAll_append (hargs _ (fun _ _ => rfl)) (hres _ _ _), hvars _ (fun _ _ => rfl), rfl, ?_, ?_⟩, ?_⟩
    · intro b off hp
      have hin : MemPlace.cell b off ∈ before := by rw [hps]; simpa using hp
      rw [hb.frozen (hlt _ hin)]
      exact hz b off hin
    · intro ha
      have := hn ha
      rw [hps] at this
      simpa using this
    · intro p hp _
      rw [hps]
      simpa using hp
end

/-- What a law's walk has to show of its arguments as they come in. -/
def ArgsIn {H : Type} (enc : TypeId × Value → H) (W : World) (ts : List TypeId) (vs : List Value) : Prop :=
  (∀ (j : Nat) t v, ts[j]? = some t → vs[j]? = some v → ∃ base, Value.okWide Try.prog W .any base t v) ∧ ∃ ds ps, DataW.TrodAll enc Try.prog W 0 (fun _ => true) true ts vs ds ps

/-- The last step of a law: out of the walk. -/
theorem law_step {H : Type} {enc : TypeId × Value → H} {f : FuncId} {fn : Func} {s : ChangeSpec} (hsv : s.vars = []) (hrt : fn.resultTypes = #[4])
    (hres : ∀ ds : List (DataW H), ds.length = fn.params.toList.length → (s.fn H (ds ++ [])).results = [.lit (.bool true)] ∧ (s.fn H (ds ++ [])).args = ds ∧ (s.fn H (ds ++ [])).vars = [])
    (hread : ∀ t ∈ fn.params.toList, Try.prog.readableRec t = true ∧ t < Try.prog.types.size)
    {W : World} {base : Nat} {args : Array Value} {ds gs : List (DataW H)} {before : List MemPlace}
    (hval : ∀ (j : Nat) t v, fn.params[j]? = some t → args[j]? = some v → Value.okWide Try.prog W .any base t v)
    (hW : DataW.Whole enc Try.prog fn.params.toList s.vars false W args.toList ds gs before)
    (walk : ArgsIn enc W fn.params.toList args.toList → Calls Try.prog f args W (Gives (.bool true) W)) :
    Calls Try.prog f args W fun e W' => ∃ v, e = .returned v ∧ s.post enc Try.prog fn false true false false W args v W' := by
  have hW' := hW
  obtain ⟨p, q, hA, hV, rfl, hfz, hnd⟩ := hW
  rw [hsv] at hV
  have hg : gs = [] ∧ q = [] := by cases gs with | nil => exact ⟨rfl, hV⟩ | cons a b => exact hV.elim
  obtain ⟨rfl, rfl⟩ := hg
  have hlen := trodAll_len hA
  obtain ⟨e1, e2, e3⟩ := hres ds hlen
  refine (walk ⟨fun j t v ht hv => ⟨base, hval j t v (by simpa using ht) (by simpa using hv)⟩, ds, p, hA⟩).mono fun e W' ⟨he, hb⟩ => ?_
  subst he
  have hlt : ∀ x ∈ p, x.block < W.heap.size := fun x hx => DataW.TrodAll.lt hA x hx
  refine ⟨_, rfl, post_of_below (pa := p) (pv := []) hW' ?_ ?_ ?_ rfl hb ?_⟩
  · intro b sp hd
    rw [e1, hrt]
    exact trodAll_mk1 (shut_bool Try.underlying4 _)
  · intro sp hsp
    rw [e2]
    exact trodAll_stays laid_out hread hA (fun x hx => hb.same (hlt x hx)) (fun x hx => hsp x (by simp [hx]))
  · intro sp hsp
    rw [e3, hsv]
    rfl
  · refine ok_one hrt rfl (okWide_bool_mk Try.underlying4 _)

section
variable {H : Type} {enc : TypeId × Value → H} {W : World}
theorem argsIn_cons {t : TypeId} {ts : List TypeId} {vs : List Value} (h : ArgsIn enc W (t :: ts) vs) :
    ∃ v vs', vs = v :: vs' ∧ (∃ base, Value.okWide Try.prog W .any base t v) ∧ (∃ d p, DataW.Trod enc Try.prog W 0 (fun _ => true) true t v d p) ∧ ArgsIn enc W ts vs' := by
  obtain ⟨hv, ds, ps, hA⟩ := h
  match vs, ds, hA with
  | v :: vs', d :: ds', hA =>
    obtain ⟨p, q, h1, h2, _⟩ := hA
    exact ⟨v, vs', rfl, hv 0 t v rfl rfl, ⟨d, p, h1⟩, fun j t' v' ht' hv' => hv (j + 1) t' v' ht' hv', ds', q, h2⟩
theorem argsIn_nil {vs : List Value} (h : ArgsIn enc W [] vs) : vs = [] := by
  obtain ⟨_, ds, ps, hA⟩ := h
  match vs, ds, hA with
  | [], [], _ => rfl
theorem arg_int {t : TypeId} {v : Value} (ht : Try.prog.underlying t = some (.int .i64)) (ho : ∃ base, Value.okWide Try.prog W .any base t v) (hd : ∃ d p, DataW.Trod enc Try.prog W 0 (fun _ => true) true t v d p) :
    ∃ n, v = .int .i64 n ∧ -9223372036854775808 ≤ n ∧ n ≤ 9223372036854775807 := by
  obtain ⟨base, ho⟩ := ho
  obtain ⟨d, p, hd⟩ := hd
  obtain ⟨n, rfl, _, _, hw⟩ := open_int ht ho hd
  obtain ⟨h1, h2⟩ := bounds_i64 hw
  exact ⟨n, rfl, h1, h2⟩
theorem spot_none {w : World} {a : Addr} {v : Value} (h : w.cell? a = some v) : a = ⟨a.block, a.off, none⟩ := by
  obtain ⟨b, o, s⟩ := a
  cases s with
  | none => rfl
  | some x => simp [World.cell?] at h; split at h <;> simp at h
theorem add_eq (b o : Nat) (i : Nat) : (⟨b, o, none⟩ : Addr).add i = ⟨b, o + i, none⟩ := by unfold Addr.add; split <;> simp_all
theorem add_block (a : Addr) (n : Nat) : (a.add n).block = a.block := by unfold Addr.add; split <;> rfl
/-- A slice of numbers. -/
theorem cells_ints {t e : TypeId} {fuel : Nat} {v : Value} {sp : Nat → Bool} {hd : Bool} {x : DataW H × List MemPlace} (ht : Try.prog.underlying t = some (.slice e)) (he : Try.prog.underlying e = some (.int .i64)) (hC : Try.prog.cellsOf e = 1)
    (h : DataW.trod enc Try.prog W 0 sp hd fuel t [v] = some x) :
    ∃ (A : Option Addr) (c : Nat) (l : List Int), v = .slice A l.length c ∧ l.length ≤ maxLen ∧ Rd W W.heap.size A (l.map (Value.int .i64)) ∧ (∀ n ∈ l, -9223372036854775808 ≤ n ∧ n ≤ 9223372036854775807) := by
  rcases open_ints ht he hC h with ⟨hcs, _⟩ | ⟨a, len, cap, zs, hcs, _, hl, hm, hz, _, hcell, hwz⟩
  · simp at hcs; subst hcs
    exact ⟨none, 0, [], rfl, Nat.zero_le _, Rd.nil, by simp⟩
  · simp at hcs; subst hcs
    have hlz : len ≤ zs.length := by split at hz <;> omega
    refine ⟨some a, cap, zs.take len, by rw [List.length_take]; congr 1; omega, Nat.le_trans (by rw [List.length_take]; omega) hm, ?_, ?_⟩
    · intro hne
      have h0 : 0 < len := by
        rcases Nat.eq_zero_or_pos len with h | h
        · subst h; simp at hne
        · exact h
      have hc0 := hcell 0 (by omega)
      have hz0 : a.add 0 = a := by simp [Addr.add]
      rw [hz0] at hc0
      have hs := spot_none hc0
      refine ⟨a.block, a.off, by rw [← hs], World.block_lt_of_cell? _ _ hc0, fun j u hu => ?_⟩
      rw [List.getElem?_map, Option.map_eq_some_iff] at hu
      obtain ⟨y, hy, rfl⟩ := hu
      have hj : j < len := by
        have := (List.getElem?_eq_some_iff.1 hy).1
        rw [List.length_take] at this; omega
      have h2 := hcell j (by omega)
      rw [hs, add_eq] at h2
      rw [h2]
      rw [List.getElem?_take, if_pos hj] at hy
      simp [List.getD, hy]
    · intro n hn
      have hw := hwz n (List.mem_of_mem_take hn)
      exact bounds_i64 hw
theorem arg_ints {t e : TypeId} {v : Value} (ht : Try.prog.underlying t = some (.slice e)) (he : Try.prog.underlying e = some (.int .i64)) (hC : Try.prog.cellsOf e = 1)
    (ho : ∃ base, Value.okWide Try.prog W .any base t v) (hd : ∃ d p, DataW.Trod enc Try.prog W 0 (fun _ => true) true t v d p) :
    ∃ (A : Option Addr) (c : Nat) (l : List Int), v = .slice A l.length c ∧ l.length ≤ maxLen ∧ Rd W W.heap.size A (l.map (Value.int .i64)) ∧ (∀ n ∈ l, -9223372036854775808 ≤ n ∧ n ≤ 9223372036854775807) := by
  obtain ⟨base, ho⟩ := ho
  obtain ⟨d, p, fuel, hd⟩ := hd
  obtain ⟨a, len, cap, rfl⟩ := okWide_slice ht ho
  exact cells_ints ht he hC hd
end
end Go.Proofs.Ytpecmhdepggnoaa
