/- Samples that are right: their times and sizes, in plain numbers. -/
import Derived.Test.YtbdcnooafacldaaDoorKSmp
import Derived.Test.YtbdcnooafacldaaDoorKBd
namespace Go.Proofs.YtbdcnooafacldaaDoor
open Go.RowKit
set_option linter.unusedSimpArgs false

def Timed : Int → List Smp → Prop
  | _, [] => True
  | t, s :: r => s.time = t ∧ Timed (t + s.step) r
theorem badSmp_bd {s : Smp} (h : badSmp s = false) : -1000000000000000 ≤ s.time ∧ s.time ≤ 1000000000000000 ∧ 0 ≤ s.step ∧ s.step ≤ 1000000000 ∧ -1000000000 ≤ s.shift ∧ s.shift ≤ 1000000000 ∧ 0 ≤ s.size ∧ s.size ≤ 100000 := by
  simp only [badSmp, Bool.or_eq_false_iff] at h
  obtain ⟨⟨⟨h1, h2⟩, h3⟩, h4⟩ := h
  have := noTime_bd h1
  have := outB_f h2
  have := outB_f h3
  have := outB_f h4
  omega
theorem endW_eq {s : Smp} (h : badSmp s = false) : s.endW = s.time + s.step := by
  have := badSmp_bd h
  exact wrap_in (by omega) (by omega)
theorem smpGo_0 : ∀ {l : List Smp} {p : Option Int}, smpGo p l = 0 → (∀ s ∈ l, badSmp s = false) ∧ (∀ q, p = some q → Timed q l) ∧ (∀ s r, l = s :: r → Timed s.time l)
  | [], _, _ => ⟨by simp, fun _ _ => trivial, fun _ _ e => by cases e⟩
  | s :: r, p, h => by
    unfold smpGo at h
    split at h
    · cases h
    · rename_i h1
      split at h
      · cases h
      · rename_i h2
        obtain ⟨a, b, _⟩ := smpGo_0 h
        have hs : badSmp s = false := by simpa using h1
        have hb := b _ rfl
        rw [endW_eq hs] at hb
        refine ⟨?_, ?_, ?_⟩
        · intro x hx
          rcases List.mem_cons.1 hx with rfl | hx
          · exact hs
          · exact a x hx
        · rintro q rfl
          have hq : s.time = q := by simpa using h2
          subst hq
          exact ⟨rfl, hb⟩
        · intro s' r' e
          injection e with e1 e2
          subst e1
          exact ⟨rfl, hb⟩
theorem smpF_0 {l : List Smp} (h : smpF l = 0) : l.length ≤ 5000 ∧ (∀ s ∈ l, badSmp s = false) ∧ (∀ s r, l = s :: r → Timed s.time l) ∧ ∀ s, l.getLast? = some s → noTime (s.time + s.step) = false := by
  unfold smpF at h
  split at h
  · cases h
  · split at h
    · rename_i h1; exact absurd h h1
    · rename_i h1
      obtain ⟨a, _, b⟩ := smpGo_0 (show smpGo none l = 0 by simpa using h1)
      split at h
      · cases h
      · rename_i h2
        refine ⟨by omega, a, b, fun s hs => ?_⟩
        rw [hs] at h2
        have := a s (List.mem_of_getLast? hs)
        rw [← endW_eq this]
        simpa using h2
theorem timed_bd : ∀ {l : List Smp} {t : Int}, Timed t l → (∀ s ∈ l, badSmp s = false) → ∀ k (h : k < l.length), t ≤ l[k].time ∧ l[k].time ≤ t + 1000000000 * k
  | [], _, _, _, k, h => by simp at h
  | s :: r, t, ht, hb, k, h => by
    obtain ⟨h1, h2⟩ := ht
    have b := badSmp_bd (hb s List.mem_cons_self)
    cases k with
    | zero => simp; omega
    | succ k =>
      have := timed_bd h2 (fun x hx => hb x (List.mem_cons_of_mem _ hx)) k (by simpa using h)
      simp only [List.getElem_cons_succ]
      omega
/-- The sum of sizes. -/
def sizes : List Smp → Int
  | [] => 0
  | s :: r => s.size + sizes r
theorem sizes_bd : ∀ {l : List Smp}, (∀ s ∈ l, badSmp s = false) → 0 ≤ sizes l ∧ sizes l ≤ 100000 * l.length
  | [], _ => by simp [sizes]
  | s :: r, h => by
    have b := badSmp_bd (h s List.mem_cons_self)
    have := sizes_bd fun x hx => h x (List.mem_cons_of_mem s hx)
    simp only [sizes, List.length_cons]; omega
theorem sizes_take {l : List Smp} : ∀ {k : Nat} (h : k < l.length), sizes (l.take (k + 1)) = sizes (l.take k) + l[k].size := by
  induction l with
  | nil => intro k h; simp at h
  | cons s r ih =>
    intro k h
    cases k with
    | zero => simp [sizes]
    | succ k =>
      have := ih (k := k) (by simpa using h)
      simp only [List.take_succ_cons, sizes, List.getElem_cons_succ] at this ⊢
      omega
theorem sizes_split (l : List Smp) (k : Nat) : sizes l = sizes (l.take k) + sizes (l.drop k) := by
  induction l generalizing k with
  | nil => simp [sizes]
  | cons s r ih =>
    cases k with
    | zero => simp [sizes]
    | succ k => simp only [List.take_succ_cons, List.drop_succ_cons, sizes]; rw [ih k]; omega
end Go.Proofs.YtbdcnooafacldaaDoor
/- Parcels: sample.parcelFault, by the machine on data. -/
namespace Go.Proofs.YtbdcnooafacldaaDoor
open Go.RowKit
set_option linter.unusedSimpArgs false

structure Par where
  scale : Int
  smps : List Smp
def Par.av (p : Par) : List AV := [.val (.int .i64 p.scale), .ro (p.smps.map Smp.av)]
theorem all_par (x : List AV) (h : HasAll [.int .i64, .row [.int .i64, .int .i64, .int .i64, .int .i64, .bool]] x) : ∃ p : Par, x = p.av ∧ True := by
  obtain ⟨v0, r, rfl, h0, h⟩ := all_cons h
  obtain ⟨v1, r, rfl, h1, h⟩ := all_cons h
  obtain rfl := all_nil h
  obtain ⟨n0, rfl, _⟩ := has_int h0
  obtain ⟨l, rfl, _, _⟩ := has_row h1 all_smp
  exact ⟨⟨n0, l⟩, rfl, trivial⟩
def parF (p : Par) : Int := if smpF p.smps ≠ 0 then smpF p.smps else if noScale p.scale then 1 else 0
theorem parF_0 {p : Par} (h : parF p = 0) : smpF p.smps = 0 ∧ noScale p.scale = false := by
  unfold parF at h
  split at h
  · rename_i h1; exact absurd h h1
  · rename_i h1
    split at h
    · cases h
    · rename_i h2; exact ⟨by simpa using h1, by simpa using h2⟩
/-! headend/sample.parcelFault -/
def r19_0 : List POp := [⟨1, .boxs (.t 0), none⟩,
  ⟨2, .asg (.c (.int .i64 0)), none⟩]
def r19_1 : List POp := [⟨4, .fld 1 (.t 1), none⟩,
  ⟨5, .load (.t 4), none⟩,
  ⟨6, .call 35 [.t 5], none⟩,
  ⟨3, .asg (.t 6), none⟩]
def r19_2 : List POp := [⟨7, .mv (.t 3), none⟩,
  ⟨8, .bin .neq (.t 7) (.c (.int .i64 0)), none⟩]
def r19_3 : List POp := [⟨9, .mv (.t 3), none⟩,
  ⟨2, .asg (.t 9), none⟩]
def r19_4 : List POp := [⟨10, .fld 0 (.t 1), none⟩,
  ⟨11, .load (.t 10), none⟩,
  ⟨12, .call 36 [.t 11], none⟩]
def r19_5 : List POp := [⟨2, .asg (.c (.int .i64 1)), none⟩]
def r19_6 : List POp := [⟨2, .asg (.c (.int .i64 0)), none⟩]
def p19 : PCode := .seq (.ops r19_0) (.seq (.seq (.ops r19_1) (.seq (.ops r19_2) (.cond (.t 8) (.seq (.ops r19_3) (.ret)) (.skip)))) (.seq (.seq (.ops r19_4) (.cond (.t 12) (.seq (.ops r19_5) (.ret)) (.skip))) (.seq (.ops r19_6) (.ret))))
theorem ok19 : okFunc Tryd.prog 19 [.t 2] 1 p19 = true := by kernel_rfl
theorem par_c (p : Par) : CallOK Tryd.prog 19 [.agg p.av] (.val (.int .i64 (parF p))) := by
  refine call_of mixed ok19 rfl ?_
  repeat' first | ((with_reducible (first | refine condD ?_ ?_ | refine condE ?_ ?_ | refine condN ?_ ?_ | refine condI ?_ ?_ | refine condS ?_ ?_)) <;> intro h) | ((with_reducible (first | refine guardD (by with_unfolding_all rfl) ?_ ?_ | refine guardE (by with_unfolding_all rfl) ?_ ?_ | refine guardN (by with_unfolding_all rfl) ?_ ?_ | refine guardI (by with_unfolding_all rfl) ?_ ?_ | refine guardS (by with_unfolding_all rfl) ?_ ?_)) <;> intro h) | ((refine callG (smp_c _) ?_)) | ((refine callG (noscale_c _) ?_)) | (with_reducible refine And.intro ?_ ?_; omega) | (simp only [done_eq, done_eq', donet_eq, donet_eq', fin_val, fin_tup, fin_agg, fin_ro, res_one, res_more, rv_t, rv_c, rv_l, AV.tup.injEq, AV.agg.injEq, AV.ro.injEq, List.cons.injEq, int_eq, bool_eq, Int.toNat_natCast, Int.reduceToNat, Int.toNat_zero, Int.toNat_one, Int.reduceLE, Int.reduceLT, Int.reduceBEq, Int.reduceBNe, beq_self_eq_true, bne_self_eq_false, decide_true, decide_false,  Int.reduceNeg, toNat_pred, toNat_succ, List.length_map, cnd_t, cnd_f, grd_tt, grd_u, grd_tf, grd_ft, grd_ff, g_skip, g_ops, g_seq, g_block, g_exit, g_ret, x_c, x_o, x_l, x_b, g_b, g_nil, r_all, o_nil, g_cond, o_guard, o_call, o_callm, o_callt, o_callx, o_callv, lk, ef, o_mv, o_pick, o_bin, o_never, o_eqs, o_eqb, o_un, o_conv, o_load, o_loadr, o_idxr, o_loads, o_fld, o_idx, o_idxs, o_len, o_lens, o_ext, o_nilck, o_slc, o_slcs, o_build, o_minmax, o_mkfn, o_alloc, o_box, o_boxs, o_row, o_rowr, o_mk, o_asg, o_app, o_store, o_stores, o_eqnil, hv, eqAV, ev, view_t, view_c, view_nil, view_fn, look_own, look_box, look_junk, look_val, look_nilsl, look_ro, look_roAt, look_agg, look_tup, look_clo, look_alias, look_ref, look_into, rowOf, cellsOf, argv, vbin, vun, bnd, elemOf, putParts, setAt, zav, ASt.rid, ASt.free, AV.kill, AV.isHome, AV.noLoan, AV.cellOK, Value.oneCell', put_at, mk_at, mk_nil, initSt, true_and, and_true, and_self, implies_true, List.map_cons, List.map_nil, List.forall_mem_cons, List.not_mem_nil, false_implies, List.length_cons, List.length_nil, List.getD_cons_zero, List.getD_cons_succ, List.getD_nil, List.drop_succ_cons, List.drop_zero, List.take_succ_cons, List.take_zero, List.set_cons_zero, List.set_cons_succ, List.all_cons, List.all_nil, Bool.and_true, Bool.true_and, Bool.not_true, Bool.not_false, reduceCtorEq, if_true, if_false, Bool.false_eq_true, ↓reduceIte, Nat.reduceEqDiff, Nat.reduceAdd, Nat.reduceSub, Nat.reduceMul, Nat.reduceLeDiff, Nat.reduceLT, ne_eq, not_false_eq_true, not_true_eq_false, Nat.one_ne_zero, Nat.zero_ne_one, r19_0, r19_1, r19_2, r19_3, r19_4, r19_5, r19_6, p19, Par.av]) | (exfalso; omega)
  all_goals simp [parF, *]
  all_goals
    intro e0
    simp [e0] at *
/-- What the walks want of a right parcel. -/
theorem par_facts {p : Par} (h : parF p = 0) : p.smps.length ≤ 5000 ∧ (∀ s ∈ p.smps, badSmp s = false) ∧ 1 ≤ p.scale ∧ p.scale ≤ 1000000000 ∧ ∀ k (hk : k < p.smps.length), (p.smps.headD ⟨0, 0, 0, 0, false⟩).time ≤ p.smps[k].time ∧ p.smps[k].time ≤ (p.smps.headD ⟨0, 0, 0, 0, false⟩).time + 5000000000000 := by
  obtain ⟨h1, h2⟩ := parF_0 h
  obtain ⟨a, b, c, _⟩ := smpF_0 h1
  have bs := noScale_bd h2
  obtain ⟨scale, l⟩ := p
  simp only at a b c bs
  refine ⟨a, b, bs.1, bs.2, fun k hk => ?_⟩
  cases l with
  | nil => simp at hk
  | cons s r =>
    have ht := c s r rfl
    have := timed_bd ht b k hk
    simp only [List.headD_cons]
    have hk2 : k ≤ 5000 := Nat.le_of_lt (Nat.lt_of_lt_of_le hk a)
    omega
end Go.Proofs.YtbdcnooafacldaaDoor
