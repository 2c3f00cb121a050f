/- Sets of ticks: Join, Meet, Without; what they have. -/
import Derived.Test.YtlpbnpmmndcleaaKComb
import Derived.Test.YtlpbnpmmndcleaaDmP
namespace Go.Proofs.Ytlpbnpmmndcleaa
open Go.RowKit
set_option linter.unusedSimpArgs false

theorem hasB_low {l : List Sp} {e n : Int} (h : ∀ s ∈ l, e ≤ s.f) (hn : n < e) : hasB l n = false := by
  cases hq : hasB l n with
  | false => rfl
  | true => obtain ⟨s, hs, q1, q2⟩ := hasB_iff.1 hq; have := h s hs; omega
/-- What combine's spans are. -/
theorem comb_all {keep : Bool → Bool → Bool} (hk : keep false false = false) {a b : List Sp} (ha : OkS a) (hb : OkS b) : OkS (combGo keep a b (allEdges a b) []) ∧ ∀ n, hasB (combGo keep a b (allEdges a b) []) n = keep (hasB a n) (hasB b n) := by
  have hup : (allEdges a b).Pairwise (· < ·) := compact_up (sortI_ord _)
  have hmem : ∀ x, x ∈ allEdges a b ↔ ∃ s ∈ a ++ b, x = s.f ∨ x = s.t := fun x => (compact_mem.trans sort_mem).trans edges_mem
  generalize allEdges a b = E at *
  cases E with
  | nil =>
    have ha0 : a = [] := by
      cases a with
      | nil => rfl
      | cons s r => exact absurd ((hmem s.f).2 ⟨s, by simp, .inl rfl⟩) (by simp)
    have hb0 : b = [] := by
      cases b with
      | nil => rfl
      | cons s r => exact absurd ((hmem s.f).2 ⟨s, by simp, .inl rfl⟩) (by simp)
    subst ha0; subst hb0
    exact ⟨okS_nil, fun n => by rw [combGo, hasB_nil, hk]⟩
  | cons e r =>
    have ea : EdgesIn a (e :: r) e := fun s hs => ⟨.inl ((hmem _).2 ⟨s, by simp [hs], .inl rfl⟩), .inl ((hmem _).2 ⟨s, by simp [hs], .inr rfl⟩)⟩
    have eb : EdgesIn b (e :: r) e := fun s hs => ⟨.inl ((hmem _).2 ⟨s, by simp [hs], .inl rfl⟩), .inl ((hmem _).2 ⟨s, by simp [hs], .inr rfl⟩)⟩
    have low : ∀ x ∈ e :: r, e ≤ x := fun x hx => by
      rcases List.mem_cons.1 hx with rfl | hx
      · exact Int.le_refl _
      · exact Int.le_of_lt ((List.pairwise_cons.1 hup).1 x hx)
    obtain ⟨h1, h2⟩ := comb_ok hk ha hb r e [] hup ea eb okS_nil (by simp)
    refine ⟨h1, fun n => ?_⟩
    rw [h2]
    split
    · rename_i hn
      rw [hasB_low (l := a) (fun s hs => low _ ((hmem _).2 ⟨s, by simp [hs], .inl rfl⟩)) hn, hasB_low (l := b) (fun s hs => low _ ((hmem _).2 ⟨s, by simp [hs], .inl rfl⟩)) hn, hk]
      rfl
    · rfl
theorem comb_times {keep : Bool → Bool → Bool} {a b : List Sp} (ha : ∀ s ∈ a, noTime s.f = false ∧ noTime s.t = false) (hb : ∀ s ∈ b, noTime s.f = false ∧ noTime s.t = false) : ∀ u ∈ combGo keep a b (allEdges a b) [], noTime u.f = false ∧ noTime u.t = false := by
  refine comb_mem _ _ (fun x => noTime x = false) (fun x hx => ?_) (by simp)
  obtain ⟨s, hs, q⟩ := ((compact_mem.trans sort_mem).trans edges_mem).1 hx
  have : noTime s.f = false ∧ noTime s.t = false := by
    rcases List.mem_append.1 hs with hs | hs
    · exact ha s hs
    · exact hb s hs
  rcases q with rfl | rfl
  · exact this.1
  · exact this.2
theorem combF_ok {keep : Bool → Bool → Bool} (hk : keep false false = false) {a b : List Sp} (h : (combF keep a b).2 = 0) : spsF a = 0 ∧ spsF b = 0 ∧ spsF (combF keep a b).1 = 0 ∧ ∀ n, hasB (combF keep a b).1 n = keep (hasB a n) (hasB b n) := by
  unfold combF at h ⊢
  split at h
  · rename_i q; exact absurd h q
  · split at h
    · rename_i q; exact absurd h q
    · rename_i q1 q2
      rw [if_neg q1, if_neg q2]
      simp only [ne_eq, Decidable.not_not] at q1 q2
      split at h
      · cases h
      · rename_i q3
        rw [if_neg q3]
        obtain ⟨_, ab, aok⟩ := spsF_0 q1
        obtain ⟨_, bb, bok⟩ := spsF_0 q2
        obtain ⟨r1, r2⟩ := comb_all hk aok bok
        exact ⟨q1, q2, spsF_of (Nat.le_of_not_lt q3) (comb_times ab bb) r1, r2⟩
theorem combF_no {keep : Bool → Bool → Bool} {a b : List Sp} (h : (combF keep a b).2 ≠ 0) : (combF keep a b).1 = [] := by
  unfold combF at h ⊢
  split
  · rfl
  · split
    · rfl
    · split
      · rfl
      · rename_i q1 q2 q3
        rw [if_neg q1, if_neg q2, if_neg q3] at h
        exact absurd rfl h
/-- What has a right set's ticks is it. -/
theorem combF_is {keep : Bool → Bool → Bool} (hk : keep false false = false) {a b c : List Sp} (ha : spsF a = 0) (hb : spsF b = 0) (hc : spsF c = 0) (h : ∀ n, hasB c n = keep (hasB a n) (hasB b n)) : combF keep a b = (c, 0) := by
  obtain ⟨_, ab, aok⟩ := spsF_0 ha
  obtain ⟨_, bb, bok⟩ := spsF_0 hb
  obtain ⟨cl, cb, cok⟩ := spsF_0 hc
  obtain ⟨r1, r2⟩ := comb_all hk aok bok
  have e : combGo keep a b (allEdges a b) [] = c := okS_uniq r1 cok fun n => by rw [r2, h]
  rw [combF, if_neg (by simp [ha]), if_neg (by simp [hb]), e, if_neg (by omega)]
theorem sps_cnt {l : List Sp} (h : spsF l = 0) : lenS l = cntB (hasB l) (-1000000000000000) 2000000000000000 := by
  obtain ⟨_, lb, lok⟩ := spsF_0 h
  refine lenS_cnt lok fun s hs => ?_
  obtain ⟨q1, q2⟩ := lb s hs
  have := noTime_bd q1
  have := noTime_bd q2
  omega
def orB (x y : Bool) : Bool := x || y
def andB (x y : Bool) : Bool := x && y
def notB (x y : Bool) : Bool := x && !y
/-! headend/tick.Join$1 -/
def r53_0 : List POp := [⟨4, .asg (.c (.bool false)), none⟩]
def r53_1 : List POp := [⟨5, .mv (.t 0), none⟩,
  ⟨6, .mv (.t 5), none⟩,
  ⟨7, .mv (.t 1), some (6, false)⟩,
  ⟨8, .pick (.t 6) (.c (.bool true)) (.t 7), none⟩,
  ⟨4, .asg (.t 8), none⟩]
def p53 : PCode := .seq (.ops r53_0) (.seq (.ops r53_1) (.ret))
theorem ok53 : okFunc Try.prog 53 [.t 4] 2 p53 = true := by kernel_rfl
/-! headend/tick.Join -/
def r29_0 : List POp := [⟨4, .asg .nil, none⟩,
  ⟨5, .asg (.c (.int .i64 0)), none⟩]
def r29_1 : List POp := [⟨6, .mv (.t 0), none⟩,
  ⟨7, .mv (.t 1), none⟩,
  ⟨8, .call 52 [.t 6, .t 7, .fn 53], none⟩,
  ⟨9, .ext 0 (.t 8), none⟩,
  ⟨10, .ext 1 (.t 8), none⟩,
  ⟨4, .asg (.t 9), none⟩,
  ⟨5, .asg (.t 10), none⟩]
def p29 : PCode := .seq (.ops r29_0) (.seq (.ops r29_1) (.ret))
theorem ok29 : okFunc Try.prog 29 [.t 4, .t 5] 2 p29 = true := by kernel_rfl
theorem join1_c (x y : Bool) : CallOK Try.prog 53 [.val (.bool x), .val (.bool y)] (.val (.bool (orB x y))) := by
  refine call_of mixed ok53 rfl ?_
  cases x <;> cases y
  all_goals
    repeat' first | (with_reducible refine condD (fun h => ?_) (fun h => ?_)) | (with_reducible refine condE (fun h => ?_) (fun h => ?_)) | (with_reducible refine condN (fun h => ?_) (fun h => ?_)) | (with_reducible refine condI (fun h => ?_) (fun h => ?_)) | (with_reducible refine condS (fun h => ?_) (fun h => ?_)) | (with_reducible refine guardD (by with_unfolding_all rfl) (fun h => ?_) (fun h => ?_)) | (with_reducible refine guardE (by with_unfolding_all rfl) (fun h => ?_) (fun h => ?_)) | (with_reducible refine guardN (by with_unfolding_all rfl) (fun h => ?_) (fun h => ?_)) | (with_reducible refine guardI (by with_unfolding_all rfl) (fun h => ?_) (fun h => ?_)) | (with_reducible refine guardS (by with_unfolding_all rfl) (fun h => ?_) (fun h => ?_)) | (with_reducible refine And.intro ?_ ?_; omega) | (simp only [done_eq, done_eq', donet_eq, donet_eq', fin_val, fin_tup, fin_agg, fin_ro, res_one, res_more, rv_t, rv_c, rv_l, AV.tup.injEq, AV.agg.injEq, AV.ro.injEq, List.cons.injEq, int_eq, bool_eq, Int.toNat_natCast, Int.reduceToNat, Int.toNat_zero, Int.toNat_one, Int.reduceLE, Int.reduceLT, Int.reduceBEq, Int.reduceBNe, beq_self_eq_true, bne_self_eq_false, decide_true, decide_false,  Int.reduceNeg, toNat_pred, toNat_succ, List.length_map, cnd_t, cnd_f, grd_tt, grd_u, grd_tf, grd_ft, grd_ff, g_skip, g_ops, g_seq, g_block, g_exit, g_ret, x_c, x_o, x_l, x_b, g_b, g_nil, r_all, o_nil, g_cond, o_guard, o_call, o_callm, o_callx, o_callv, lk, ef, o_mv, o_pick, o_bin, o_never, o_eqs, o_eqb, o_un, o_conv, o_load, o_loadr, o_idxr, o_loads, o_fld, o_idx, o_idxs, o_len, o_lens, o_ext, o_nilck, o_slc, o_slcs, o_build, o_minmax, o_mkfn, o_alloc, o_box, o_boxs, o_row, o_rowr, o_mk, o_asg, o_app, o_store, o_stores, o_eqnil, hv, eqAV, ev, view_t, view_c, view_nil, view_fn, look_own, look_box, look_junk, look_val, look_nilsl, look_ro, look_roAt, look_agg, look_tup, look_clo, look_alias, look_ref, look_into, rowOf, cellsOf, argv, vbin, vun, bnd, elemOf, putParts, setAt, zav, ASt.rid, ASt.free, AV.kill, AV.isHome, AV.noLoan, AV.cellOK, Value.oneCell', put_at, mk_at, mk_nil, initSt, true_and, and_true, and_self, implies_true, List.map_cons, List.map_nil, List.forall_mem_cons, List.not_mem_nil, false_implies, List.length_cons, List.length_nil, List.getD_cons_zero, List.getD_cons_succ, List.getD_nil, List.drop_succ_cons, List.drop_zero, List.take_succ_cons, List.take_zero, List.set_cons_zero, List.set_cons_succ, List.all_cons, List.all_nil, Bool.and_true, Bool.true_and, Bool.not_true, Bool.not_false, reduceCtorEq, if_true, if_false, Bool.false_eq_true, ↓reduceIte, Nat.reduceEqDiff, Nat.reduceAdd, Nat.reduceSub, Nat.reduceMul, Nat.reduceLeDiff, Nat.reduceLT, ne_eq, not_false_eq_true, not_true_eq_false, Nat.one_ne_zero, Nat.zero_ne_one, r53_0, r53_1, p53]) | (exfalso; omega)
  all_goals rfl
theorem joinS_c (a b : List Sp) (ha0 : a.length ≤ 9223372036854775807) (hb0 : b.length ≤ 9223372036854775807) : CallOK Try.prog 29 [.ro (a.map Sp.av), .ro (b.map Sp.av)] (.tup [.ro ((combF orB a b).1.map Sp.av), .val (.int .i64 (combF orB a b).2)]) := by
  refine call_of mixed ok29 rfl ?_
  have h := combine_c a b ha0 hb0 53 orB (by kernel_rfl) join1_c
  repeat' first | (with_reducible refine condD (fun h => ?_) (fun h => ?_)) | (with_reducible refine condE (fun h => ?_) (fun h => ?_)) | (with_reducible refine condN (fun h => ?_) (fun h => ?_)) | (with_reducible refine condI (fun h => ?_) (fun h => ?_)) | (with_reducible refine condS (fun h => ?_) (fun h => ?_)) | (with_reducible refine guardD (by with_unfolding_all rfl) (fun h => ?_) (fun h => ?_)) | (with_reducible refine guardE (by with_unfolding_all rfl) (fun h => ?_) (fun h => ?_)) | (with_reducible refine guardN (by with_unfolding_all rfl) (fun h => ?_) (fun h => ?_)) | (with_reducible refine guardI (by with_unfolding_all rfl) (fun h => ?_) (fun h => ?_)) | (with_reducible refine guardS (by with_unfolding_all rfl) (fun h => ?_) (fun h => ?_)) | ((refine callG h ?_)) | (with_reducible refine And.intro ?_ ?_; omega) | (simp only [done_eq, done_eq', donet_eq, donet_eq', fin_val, fin_tup, fin_agg, fin_ro, res_one, res_more, rv_t, rv_c, rv_l, AV.tup.injEq, AV.agg.injEq, AV.ro.injEq, List.cons.injEq, int_eq, bool_eq, Int.toNat_natCast, Int.reduceToNat, Int.toNat_zero, Int.toNat_one, Int.reduceLE, Int.reduceLT, Int.reduceBEq, Int.reduceBNe, beq_self_eq_true, bne_self_eq_false, decide_true, decide_false,  Int.reduceNeg, toNat_pred, toNat_succ, List.length_map, cnd_t, cnd_f, grd_tt, grd_u, grd_tf, grd_ft, grd_ff, g_skip, g_ops, g_seq, g_block, g_exit, g_ret, x_c, x_o, x_l, x_b, g_b, g_nil, r_all, o_nil, g_cond, o_guard, o_call, o_callm, o_callx, o_callv, lk, ef, o_mv, o_pick, o_bin, o_never, o_eqs, o_eqb, o_un, o_conv, o_load, o_loadr, o_idxr, o_loads, o_fld, o_idx, o_idxs, o_len, o_lens, o_ext, o_nilck, o_slc, o_slcs, o_build, o_minmax, o_mkfn, o_alloc, o_box, o_boxs, o_row, o_rowr, o_mk, o_asg, o_app, o_store, o_stores, o_eqnil, hv, eqAV, ev, view_t, view_c, view_nil, view_fn, look_own, look_box, look_junk, look_val, look_nilsl, look_ro, look_roAt, look_agg, look_tup, look_clo, look_alias, look_ref, look_into, rowOf, cellsOf, argv, vbin, vun, bnd, elemOf, putParts, setAt, zav, ASt.rid, ASt.free, AV.kill, AV.isHome, AV.noLoan, AV.cellOK, Value.oneCell', put_at, mk_at, mk_nil, initSt, true_and, and_true, and_self, implies_true, List.map_cons, List.map_nil, List.forall_mem_cons, List.not_mem_nil, false_implies, List.length_cons, List.length_nil, List.getD_cons_zero, List.getD_cons_succ, List.getD_nil, List.drop_succ_cons, List.drop_zero, List.take_succ_cons, List.take_zero, List.set_cons_zero, List.set_cons_succ, List.all_cons, List.all_nil, Bool.and_true, Bool.true_and, Bool.not_true, Bool.not_false, reduceCtorEq, if_true, if_false, Bool.false_eq_true, ↓reduceIte, Nat.reduceEqDiff, Nat.reduceAdd, Nat.reduceSub, Nat.reduceMul, Nat.reduceLeDiff, Nat.reduceLT, ne_eq, not_false_eq_true, not_true_eq_false, Nat.one_ne_zero, Nat.zero_ne_one, r29_0, r29_1, p29]) | (exfalso; omega)
/-! headend/tick.Meet$1 -/
def r55_0 : List POp := [⟨4, .asg (.c (.bool false)), none⟩]
def r55_1 : List POp := [⟨5, .mv (.t 0), none⟩,
  ⟨6, .mv (.t 5), none⟩,
  ⟨7, .mv (.t 1), some (6, true)⟩,
  ⟨8, .pick (.t 6) (.t 7) (.c (.bool false)), none⟩,
  ⟨4, .asg (.t 8), none⟩]
def p55 : PCode := .seq (.ops r55_0) (.seq (.ops r55_1) (.ret))
theorem ok55 : okFunc Try.prog 55 [.t 4] 2 p55 = true := by kernel_rfl
/-! headend/tick.Meet -/
def r32_0 : List POp := [⟨4, .asg .nil, none⟩,
  ⟨5, .asg (.c (.int .i64 0)), none⟩]
def r32_1 : List POp := [⟨6, .mv (.t 0), none⟩,
  ⟨7, .mv (.t 1), none⟩,
  ⟨8, .call 52 [.t 6, .t 7, .fn 55], none⟩,
  ⟨9, .ext 0 (.t 8), none⟩,
  ⟨10, .ext 1 (.t 8), none⟩,
  ⟨4, .asg (.t 9), none⟩,
  ⟨5, .asg (.t 10), none⟩]
def p32 : PCode := .seq (.ops r32_0) (.seq (.ops r32_1) (.ret))
theorem ok32 : okFunc Try.prog 32 [.t 4, .t 5] 2 p32 = true := by kernel_rfl
theorem meet1_c (x y : Bool) : CallOK Try.prog 55 [.val (.bool x), .val (.bool y)] (.val (.bool (andB x y))) := by
  refine call_of mixed ok55 rfl ?_
  cases x <;> cases y
  all_goals
    repeat' first | (with_reducible refine condD (fun h => ?_) (fun h => ?_)) | (with_reducible refine condE (fun h => ?_) (fun h => ?_)) | (with_reducible refine condN (fun h => ?_) (fun h => ?_)) | (with_reducible refine condI (fun h => ?_) (fun h => ?_)) | (with_reducible refine condS (fun h => ?_) (fun h => ?_)) | (with_reducible refine guardD (by with_unfolding_all rfl) (fun h => ?_) (fun h => ?_)) | (with_reducible refine guardE (by with_unfolding_all rfl) (fun h => ?_) (fun h => ?_)) | (with_reducible refine guardN (by with_unfolding_all rfl) (fun h => ?_) (fun h => ?_)) | (with_reducible refine guardI (by with_unfolding_all rfl) (fun h => ?_) (fun h => ?_)) | (with_reducible refine guardS (by with_unfolding_all rfl) (fun h => ?_) (fun h => ?_)) | (with_reducible refine And.intro ?_ ?_; omega) | (simp only [done_eq, done_eq', donet_eq, donet_eq', fin_val, fin_tup, fin_agg, fin_ro, res_one, res_more, rv_t, rv_c, rv_l, AV.tup.injEq, AV.agg.injEq, AV.ro.injEq, List.cons.injEq, int_eq, bool_eq, Int.toNat_natCast, Int.reduceToNat, Int.toNat_zero, Int.toNat_one, Int.reduceLE, Int.reduceLT, Int.reduceBEq, Int.reduceBNe, beq_self_eq_true, bne_self_eq_false, decide_true, decide_false,  Int.reduceNeg, toNat_pred, toNat_succ, List.length_map, cnd_t, cnd_f, grd_tt, grd_u, grd_tf, grd_ft, grd_ff, g_skip, g_ops, g_seq, g_block, g_exit, g_ret, x_c, x_o, x_l, x_b, g_b, g_nil, r_all, o_nil, g_cond, o_guard, o_call, o_callm, o_callx, o_callv, lk, ef, o_mv, o_pick, o_bin, o_never, o_eqs, o_eqb, o_un, o_conv, o_load, o_loadr, o_idxr, o_loads, o_fld, o_idx, o_idxs, o_len, o_lens, o_ext, o_nilck, o_slc, o_slcs, o_build, o_minmax, o_mkfn, o_alloc, o_box, o_boxs, o_row, o_rowr, o_mk, o_asg, o_app, o_store, o_stores, o_eqnil, hv, eqAV, ev, view_t, view_c, view_nil, view_fn, look_own, look_box, look_junk, look_val, look_nilsl, look_ro, look_roAt, look_agg, look_tup, look_clo, look_alias, look_ref, look_into, rowOf, cellsOf, argv, vbin, vun, bnd, elemOf, putParts, setAt, zav, ASt.rid, ASt.free, AV.kill, AV.isHome, AV.noLoan, AV.cellOK, Value.oneCell', put_at, mk_at, mk_nil, initSt, true_and, and_true, and_self, implies_true, List.map_cons, List.map_nil, List.forall_mem_cons, List.not_mem_nil, false_implies, List.length_cons, List.length_nil, List.getD_cons_zero, List.getD_cons_succ, List.getD_nil, List.drop_succ_cons, List.drop_zero, List.take_succ_cons, List.take_zero, List.set_cons_zero, List.set_cons_succ, List.all_cons, List.all_nil, Bool.and_true, Bool.true_and, Bool.not_true, Bool.not_false, reduceCtorEq, if_true, if_false, Bool.false_eq_true, ↓reduceIte, Nat.reduceEqDiff, Nat.reduceAdd, Nat.reduceSub, Nat.reduceMul, Nat.reduceLeDiff, Nat.reduceLT, ne_eq, not_false_eq_true, not_true_eq_false, Nat.one_ne_zero, Nat.zero_ne_one, r55_0, r55_1, p55]) | (exfalso; omega)
  all_goals rfl
theorem meetS_c (a b : List Sp) (ha0 : a.length ≤ 9223372036854775807) (hb0 : b.length ≤ 9223372036854775807) : CallOK Try.prog 32 [.ro (a.map Sp.av), .ro (b.map Sp.av)] (.tup [.ro ((combF andB a b).1.map Sp.av), .val (.int .i64 (combF andB a b).2)]) := by
  refine call_of mixed ok32 rfl ?_
  have h := combine_c a b ha0 hb0 55 andB (by kernel_rfl) meet1_c
  repeat' first | (with_reducible refine condD (fun h => ?_) (fun h => ?_)) | (with_reducible refine condE (fun h => ?_) (fun h => ?_)) | (with_reducible refine condN (fun h => ?_) (fun h => ?_)) | (with_reducible refine condI (fun h => ?_) (fun h => ?_)) | (with_reducible refine condS (fun h => ?_) (fun h => ?_)) | (with_reducible refine guardD (by with_unfolding_all rfl) (fun h => ?_) (fun h => ?_)) | (with_reducible refine guardE (by with_unfolding_all rfl) (fun h => ?_) (fun h => ?_)) | (with_reducible refine guardN (by with_unfolding_all rfl) (fun h => ?_) (fun h => ?_)) | (with_reducible refine guardI (by with_unfolding_all rfl) (fun h => ?_) (fun h => ?_)) | (with_reducible refine guardS (by with_unfolding_all rfl) (fun h => ?_) (fun h => ?_)) | ((refine callG h ?_)) | (with_reducible refine And.intro ?_ ?_; omega) | (simp only [done_eq, done_eq', donet_eq, donet_eq', fin_val, fin_tup, fin_agg, fin_ro, res_one, res_more, rv_t, rv_c, rv_l, AV.tup.injEq, AV.agg.injEq, AV.ro.injEq, List.cons.injEq, int_eq, bool_eq, Int.toNat_natCast, Int.reduceToNat, Int.toNat_zero, Int.toNat_one, Int.reduceLE, Int.reduceLT, Int.reduceBEq, Int.reduceBNe, beq_self_eq_true, bne_self_eq_false, decide_true, decide_false,  Int.reduceNeg, toNat_pred, toNat_succ, List.length_map, cnd_t, cnd_f, grd_tt, grd_u, grd_tf, grd_ft, grd_ff, g_skip, g_ops, g_seq, g_block, g_exit, g_ret, x_c, x_o, x_l, x_b, g_b, g_nil, r_all, o_nil, g_cond, o_guard, o_call, o_callm, o_callx, o_callv, lk, ef, o_mv, o_pick, o_bin, o_never, o_eqs, o_eqb, o_un, o_conv, o_load, o_loadr, o_idxr, o_loads, o_fld, o_idx, o_idxs, o_len, o_lens, o_ext, o_nilck, o_slc, o_slcs, o_build, o_minmax, o_mkfn, o_alloc, o_box, o_boxs, o_row, o_rowr, o_mk, o_asg, o_app, o_store, o_stores, o_eqnil, hv, eqAV, ev, view_t, view_c, view_nil, view_fn, look_own, look_box, look_junk, look_val, look_nilsl, look_ro, look_roAt, look_agg, look_tup, look_clo, look_alias, look_ref, look_into, rowOf, cellsOf, argv, vbin, vun, bnd, elemOf, putParts, setAt, zav, ASt.rid, ASt.free, AV.kill, AV.isHome, AV.noLoan, AV.cellOK, Value.oneCell', put_at, mk_at, mk_nil, initSt, true_and, and_true, and_self, implies_true, List.map_cons, List.map_nil, List.forall_mem_cons, List.not_mem_nil, false_implies, List.length_cons, List.length_nil, List.getD_cons_zero, List.getD_cons_succ, List.getD_nil, List.drop_succ_cons, List.drop_zero, List.take_succ_cons, List.take_zero, List.set_cons_zero, List.set_cons_succ, List.all_cons, List.all_nil, Bool.and_true, Bool.true_and, Bool.not_true, Bool.not_false, reduceCtorEq, if_true, if_false, Bool.false_eq_true, ↓reduceIte, Nat.reduceEqDiff, Nat.reduceAdd, Nat.reduceSub, Nat.reduceMul, Nat.reduceLeDiff, Nat.reduceLT, ne_eq, not_false_eq_true, not_true_eq_false, Nat.one_ne_zero, Nat.zero_ne_one, r32_0, r32_1, p32]) | (exfalso; omega)
/-! headend/tick.Without$1 -/
def r56_0 : List POp := [⟨4, .asg (.c (.bool false)), none⟩]
def r56_1 : List POp := [⟨5, .mv (.t 0), none⟩,
  ⟨6, .mv (.t 5), none⟩,
  ⟨7, .mv (.t 1), some (6, true)⟩,
  ⟨8, .un .not (.t 7), some (6, true)⟩,
  ⟨9, .pick (.t 6) (.t 8) (.c (.bool false)), none⟩,
  ⟨4, .asg (.t 9), none⟩]
def p56 : PCode := .seq (.ops r56_0) (.seq (.ops r56_1) (.ret))
theorem ok56 : okFunc Try.prog 56 [.t 4] 2 p56 = true := by kernel_rfl
/-! headend/tick.Without -/
def r34_0 : List POp := [⟨4, .asg .nil, none⟩,
  ⟨5, .asg (.c (.int .i64 0)), none⟩]
def r34_1 : List POp := [⟨6, .mv (.t 0), none⟩,
  ⟨7, .mv (.t 1), none⟩,
  ⟨8, .call 52 [.t 6, .t 7, .fn 56], none⟩,
  ⟨9, .ext 0 (.t 8), none⟩,
  ⟨10, .ext 1 (.t 8), none⟩,
  ⟨4, .asg (.t 9), none⟩,
  ⟨5, .asg (.t 10), none⟩]
def p34 : PCode := .seq (.ops r34_0) (.seq (.ops r34_1) (.ret))
theorem ok34 : okFunc Try.prog 34 [.t 4, .t 5] 2 p34 = true := by kernel_rfl
theorem without1_c (x y : Bool) : CallOK Try.prog 56 [.val (.bool x), .val (.bool y)] (.val (.bool (notB x y))) := by
  refine call_of mixed ok56 rfl ?_
  cases x <;> cases y
  all_goals
    repeat' first | (with_reducible refine condD (fun h => ?_) (fun h => ?_)) | (with_reducible refine condE (fun h => ?_) (fun h => ?_)) | (with_reducible refine condN (fun h => ?_) (fun h => ?_)) | (with_reducible refine condI (fun h => ?_) (fun h => ?_)) | (with_reducible refine condS (fun h => ?_) (fun h => ?_)) | (with_reducible refine guardD (by with_unfolding_all rfl) (fun h => ?_) (fun h => ?_)) | (with_reducible refine guardE (by with_unfolding_all rfl) (fun h => ?_) (fun h => ?_)) | (with_reducible refine guardN (by with_unfolding_all rfl) (fun h => ?_) (fun h => ?_)) | (with_reducible refine guardI (by with_unfolding_all rfl) (fun h => ?_) (fun h => ?_)) | (with_reducible refine guardS (by with_unfolding_all rfl) (fun h => ?_) (fun h => ?_)) | (with_reducible refine And.intro ?_ ?_; omega) | (simp only [done_eq, done_eq', donet_eq, donet_eq', fin_val, fin_tup, fin_agg, fin_ro, res_one, res_more, rv_t, rv_c, rv_l, AV.tup.injEq, AV.agg.injEq, AV.ro.injEq, List.cons.injEq, int_eq, bool_eq, Int.toNat_natCast, Int.reduceToNat, Int.toNat_zero, Int.toNat_one, Int.reduceLE, Int.reduceLT, Int.reduceBEq, Int.reduceBNe, beq_self_eq_true, bne_self_eq_false, decide_true, decide_false,  Int.reduceNeg, toNat_pred, toNat_succ, List.length_map, cnd_t, cnd_f, grd_tt, grd_u, grd_tf, grd_ft, grd_ff, g_skip, g_ops, g_seq, g_block, g_exit, g_ret, x_c, x_o, x_l, x_b, g_b, g_nil, r_all, o_nil, g_cond, o_guard, o_call, o_callm, o_callx, o_callv, lk, ef, o_mv, o_pick, o_bin, o_never, o_eqs, o_eqb, o_un, o_conv, o_load, o_loadr, o_idxr, o_loads, o_fld, o_idx, o_idxs, o_len, o_lens, o_ext, o_nilck, o_slc, o_slcs, o_build, o_minmax, o_mkfn, o_alloc, o_box, o_boxs, o_row, o_rowr, o_mk, o_asg, o_app, o_store, o_stores, o_eqnil, hv, eqAV, ev, view_t, view_c, view_nil, view_fn, look_own, look_box, look_junk, look_val, look_nilsl, look_ro, look_roAt, look_agg, look_tup, look_clo, look_alias, look_ref, look_into, rowOf, cellsOf, argv, vbin, vun, bnd, elemOf, putParts, setAt, zav, ASt.rid, ASt.free, AV.kill, AV.isHome, AV.noLoan, AV.cellOK, Value.oneCell', put_at, mk_at, mk_nil, initSt, true_and, and_true, and_self, implies_true, List.map_cons, List.map_nil, List.forall_mem_cons, List.not_mem_nil, false_implies, List.length_cons, List.length_nil, List.getD_cons_zero, List.getD_cons_succ, List.getD_nil, List.drop_succ_cons, List.drop_zero, List.take_succ_cons, List.take_zero, List.set_cons_zero, List.set_cons_succ, List.all_cons, List.all_nil, Bool.and_true, Bool.true_and, Bool.not_true, Bool.not_false, reduceCtorEq, if_true, if_false, Bool.false_eq_true, ↓reduceIte, Nat.reduceEqDiff, Nat.reduceAdd, Nat.reduceSub, Nat.reduceMul, Nat.reduceLeDiff, Nat.reduceLT, ne_eq, not_false_eq_true, not_true_eq_false, Nat.one_ne_zero, Nat.zero_ne_one, r56_0, r56_1, p56]) | (exfalso; omega)
  all_goals rfl
theorem withoutS_c (a b : List Sp) (ha0 : a.length ≤ 9223372036854775807) (hb0 : b.length ≤ 9223372036854775807) : CallOK Try.prog 34 [.ro (a.map Sp.av), .ro (b.map Sp.av)] (.tup [.ro ((combF notB a b).1.map Sp.av), .val (.int .i64 (combF notB a b).2)]) := by
  refine call_of mixed ok34 rfl ?_
  have h := combine_c a b ha0 hb0 56 notB (by kernel_rfl) without1_c
  repeat' first | (with_reducible refine condD (fun h => ?_) (fun h => ?_)) | (with_reducible refine condE (fun h => ?_) (fun h => ?_)) | (with_reducible refine condN (fun h => ?_) (fun h => ?_)) | (with_reducible refine condI (fun h => ?_) (fun h => ?_)) | (with_reducible refine condS (fun h => ?_) (fun h => ?_)) | (with_reducible refine guardD (by with_unfolding_all rfl) (fun h => ?_) (fun h => ?_)) | (with_reducible refine guardE (by with_unfolding_all rfl) (fun h => ?_) (fun h => ?_)) | (with_reducible refine guardN (by with_unfolding_all rfl) (fun h => ?_) (fun h => ?_)) | (with_reducible refine guardI (by with_unfolding_all rfl) (fun h => ?_) (fun h => ?_)) | (with_reducible refine guardS (by with_unfolding_all rfl) (fun h => ?_) (fun h => ?_)) | ((refine callG h ?_)) | (with_reducible refine And.intro ?_ ?_; omega) | (simp only [done_eq, done_eq', donet_eq, donet_eq', fin_val, fin_tup, fin_agg, fin_ro, res_one, res_more, rv_t, rv_c, rv_l, AV.tup.injEq, AV.agg.injEq, AV.ro.injEq, List.cons.injEq, int_eq, bool_eq, Int.toNat_natCast, Int.reduceToNat, Int.toNat_zero, Int.toNat_one, Int.reduceLE, Int.reduceLT, Int.reduceBEq, Int.reduceBNe, beq_self_eq_true, bne_self_eq_false, decide_true, decide_false,  Int.reduceNeg, toNat_pred, toNat_succ, List.length_map, cnd_t, cnd_f, grd_tt, grd_u, grd_tf, grd_ft, grd_ff, g_skip, g_ops, g_seq, g_block, g_exit, g_ret, x_c, x_o, x_l, x_b, g_b, g_nil, r_all, o_nil, g_cond, o_guard, o_call, o_callm, o_callx, o_callv, lk, ef, o_mv, o_pick, o_bin, o_never, o_eqs, o_eqb, o_un, o_conv, o_load, o_loadr, o_idxr, o_loads, o_fld, o_idx, o_idxs, o_len, o_lens, o_ext, o_nilck, o_slc, o_slcs, o_build, o_minmax, o_mkfn, o_alloc, o_box, o_boxs, o_row, o_rowr, o_mk, o_asg, o_app, o_store, o_stores, o_eqnil, hv, eqAV, ev, view_t, view_c, view_nil, view_fn, look_own, look_box, look_junk, look_val, look_nilsl, look_ro, look_roAt, look_agg, look_tup, look_clo, look_alias, look_ref, look_into, rowOf, cellsOf, argv, vbin, vun, bnd, elemOf, putParts, setAt, zav, ASt.rid, ASt.free, AV.kill, AV.isHome, AV.noLoan, AV.cellOK, Value.oneCell', put_at, mk_at, mk_nil, initSt, true_and, and_true, and_self, implies_true, List.map_cons, List.map_nil, List.forall_mem_cons, List.not_mem_nil, false_implies, List.length_cons, List.length_nil, List.getD_cons_zero, List.getD_cons_succ, List.getD_nil, List.drop_succ_cons, List.drop_zero, List.take_succ_cons, List.take_zero, List.set_cons_zero, List.set_cons_succ, List.all_cons, List.all_nil, Bool.and_true, Bool.true_and, Bool.not_true, Bool.not_false, reduceCtorEq, if_true, if_false, Bool.false_eq_true, ↓reduceIte, Nat.reduceEqDiff, Nat.reduceAdd, Nat.reduceSub, Nat.reduceMul, Nat.reduceLeDiff, Nat.reduceLT, ne_eq, not_false_eq_true, not_true_eq_false, Nat.one_ne_zero, Nat.zero_ne_one, r34_0, r34_1, p34]) | (exfalso; omega)
/-! slices.Equal[[]headend/api.Span,headend/api.Span] -/
def r31_0 : List POp := [⟨4, .asg (.c (.bool false)), none⟩]
def r31_1 : List POp := [⟨6, .mv (.t 0), none⟩,
  ⟨7, .len (.t 6), none⟩,
  ⟨8, .mv (.t 1), none⟩,
  ⟨9, .len (.t 8), none⟩,
  ⟨10, .bin .neq (.t 7) (.t 9), none⟩]
def r31_2 : List POp := [⟨4, .asg (.c (.bool false)), none⟩]
def r31_3 : List POp := [⟨11, .mv (.t 0), none⟩,
  ⟨12, .len (.t 11), none⟩,
  ⟨13, .mv (.c (.int .i64 0)), none⟩]
def r31_4 : List POp := [⟨14, .bin .lss (.t 13) (.t 12), none⟩]
def r31_5 : List POp := [⟨15, .mv (.t 13), none⟩,
  ⟨5, .asg (.t 15), none⟩]
def r31_6 : List POp := [⟨16, .mv (.t 0), none⟩,
  ⟨17, .mv (.t 5), none⟩,
  ⟨18, .idx 2 (.t 16) (.t 17), none⟩,
  ⟨19, .loads 2 (.t 18), none⟩,
  ⟨20, .mv (.t 1), none⟩,
  ⟨21, .mv (.t 5), none⟩,
  ⟨22, .idx 2 (.t 20) (.t 21), none⟩,
  ⟨23, .loads 2 (.t 22), none⟩,
  ⟨24, .eqs true [0, 0] (.t 19) (.t 23), none⟩]
def r31_7 : List POp := [⟨4, .asg (.c (.bool false)), none⟩]
def r31_8 : List POp := [⟨25, .bin .add (.t 13) (.c (.int .i64 1)), none⟩,
  ⟨13, .mv (.t 25), none⟩]
def r31_9 : List POp := [⟨4, .asg (.c (.bool true)), none⟩]
def l31_0 : PCode := .seq (.ops r31_4) (.seq (.cond (.t 14) (.skip) (.exit 0)) (.seq (.block 1 (.seq (.ops r31_5) (.seq (.ops r31_6) (.cond (.t 24) (.seq (.ops r31_7) (.ret)) (.skip))))) (.ops r31_8)))
def p31 : PCode := .seq (.ops r31_0) (.seq (.seq (.ops r31_1) (.cond (.t 10) (.seq (.ops r31_2) (.ret)) (.skip))) (.seq (.seq (.ops r31_3) (.block 0 (.loop l31_0))) (.seq (.ops r31_9) (.ret))))
theorem ok31 : okFunc Try.prog 31 [.t 4] 2 p31 = true := by kernel_rfl
theorem eqsp_c (l : List Sp) (hl : l.length ≤ 1000000000) : CallOK Try.prog 31 [.ro (l.map Sp.av), .ro (l.map Sp.av)] (.val (.bool true)) := by
  refine call_of mixed ok31 rfl ?_
  repeat' first | (with_reducible refine condD (fun h => ?_) (fun h => ?_)) | (with_reducible refine condE (fun h => ?_) (fun h => ?_)) | (with_reducible refine condN (fun h => ?_) (fun h => ?_)) | (with_reducible refine condI (fun h => ?_) (fun h => ?_)) | (with_reducible refine condS (fun h => ?_) (fun h => ?_)) | (with_reducible refine guardD (by with_unfolding_all rfl) (fun h => ?_) (fun h => ?_)) | (with_reducible refine guardE (by with_unfolding_all rfl) (fun h => ?_) (fun h => ?_)) | (with_reducible refine guardN (by with_unfolding_all rfl) (fun h => ?_) (fun h => ?_)) | (with_reducible refine guardI (by with_unfolding_all rfl) (fun h => ?_) (fun h => ?_)) | (with_reducible refine guardS (by with_unfolding_all rfl) (fun h => ?_) (fun h => ?_)) | (with_reducible refine And.intro ?_ ?_; omega) | (simp only [done_eq, done_eq', donet_eq, donet_eq', fin_val, fin_tup, fin_agg, fin_ro, res_one, res_more, rv_t, rv_c, rv_l, AV.tup.injEq, AV.agg.injEq, AV.ro.injEq, List.cons.injEq, int_eq, bool_eq, Int.toNat_natCast, Int.reduceToNat, Int.toNat_zero, Int.toNat_one, Int.reduceLE, Int.reduceLT, Int.reduceBEq, Int.reduceBNe, beq_self_eq_true, bne_self_eq_false, decide_true, decide_false,  Int.reduceNeg, toNat_pred, toNat_succ, List.length_map, cnd_t, cnd_f, grd_tt, grd_u, grd_tf, grd_ft, grd_ff, g_skip, g_ops, g_seq, g_block, g_exit, g_ret, x_c, x_o, x_l, x_b, g_b, g_nil, r_all, o_nil, g_cond, o_guard, o_call, o_callm, o_callx, o_callv, lk, ef, o_mv, o_pick, o_bin, o_never, o_eqs, o_eqb, o_un, o_conv, o_load, o_loadr, o_idxr, o_loads, o_fld, o_idx, o_idxs, o_len, o_lens, o_ext, o_nilck, o_slc, o_slcs, o_build, o_minmax, o_mkfn, o_alloc, o_box, o_boxs, o_row, o_rowr, o_mk, o_asg, o_app, o_store, o_stores, o_eqnil, hv, eqAV, ev, view_t, view_c, view_nil, view_fn, look_own, look_box, look_junk, look_val, look_nilsl, look_ro, look_roAt, look_agg, look_tup, look_clo, look_alias, look_ref, look_into, rowOf, cellsOf, argv, vbin, vun, bnd, elemOf, putParts, setAt, zav, ASt.rid, ASt.free, AV.kill, AV.isHome, AV.noLoan, AV.cellOK, Value.oneCell', put_at, mk_at, mk_nil, initSt, true_and, and_true, and_self, implies_true, List.map_cons, List.map_nil, List.forall_mem_cons, List.not_mem_nil, false_implies, List.length_cons, List.length_nil, List.getD_cons_zero, List.getD_cons_succ, List.getD_nil, List.drop_succ_cons, List.drop_zero, List.take_succ_cons, List.take_zero, List.set_cons_zero, List.set_cons_succ, List.all_cons, List.all_nil, Bool.and_true, Bool.true_and, Bool.not_true, Bool.not_false, reduceCtorEq, if_true, if_false, Bool.false_eq_true, ↓reduceIte, Nat.reduceEqDiff, Nat.reduceAdd, Nat.reduceSub, Nat.reduceMul, Nat.reduceLeDiff, Nat.reduceLT, ne_eq, not_false_eq_true, not_true_eq_false, Nat.one_ne_zero, Nat.zero_ne_one, r31_0, r31_1, r31_2, r31_3, r31_4, r31_5, r31_6, r31_7, r31_8, r31_9, p31]) | (exfalso; omega)
  refine loopS (fun k : Nat => mk [(0, .ro (l.map Sp.av)), (1, .ro (l.map Sp.av)), (12, .val (.int .i64 l.length)), (13, .val (.int .i64 k))]) (fun k => k ≤ l.length) (fun k => l.length - k) 0 (weak_mk ?_) (Nat.zero_le _) ?_
  · simp only [wk_cons, wk_nil, wk1, vint_eq, vbool_eq, AV.val.injEq, done_eq, done_eq', donet_eq, donet_eq', fin_val, fin_tup, fin_agg, fin_ro, res_one, res_more, rv_t, rv_c, rv_l, AV.tup.injEq, AV.agg.injEq, AV.ro.injEq, List.cons.injEq, int_eq, bool_eq, Int.toNat_natCast, Int.reduceToNat, Int.toNat_zero, Int.toNat_one, Int.reduceLE, Int.reduceLT, Int.reduceBEq, Int.reduceBNe, beq_self_eq_true, bne_self_eq_false, decide_true, decide_false,  Int.reduceNeg, toNat_pred, toNat_succ, List.length_map, cnd_t, cnd_f, grd_tt, grd_u, grd_tf, grd_ft, grd_ff, g_skip, g_ops, g_seq, g_block, g_exit, g_ret, x_c, x_o, x_l, x_b, g_b, g_nil, r_all, o_nil, g_cond, o_guard, o_call, o_callm, o_callx, o_callv, lk, ef, o_mv, o_pick, o_bin, o_never, o_eqs, o_eqb, o_un, o_conv, o_load, o_loadr, o_idxr, o_loads, o_fld, o_idx, o_idxs, o_len, o_lens, o_ext, o_nilck, o_slc, o_slcs, o_build, o_minmax, o_mkfn, o_alloc, o_box, o_boxs, o_row, o_rowr, o_mk, o_asg, o_app, o_store, o_stores, o_eqnil, hv, eqAV, ev, view_t, view_c, view_nil, view_fn, look_own, look_box, look_junk, look_val, look_nilsl, look_ro, look_roAt, look_agg, look_tup, look_clo, look_alias, look_ref, look_into, rowOf, cellsOf, argv, vbin, vun, bnd, elemOf, putParts, setAt, zav, ASt.rid, ASt.free, AV.kill, AV.isHome, AV.noLoan, AV.cellOK, Value.oneCell', put_at, mk_at, mk_nil, initSt, true_and, and_true, and_self, implies_true, List.map_cons, List.map_nil, List.forall_mem_cons, List.not_mem_nil, false_implies, List.length_cons, List.length_nil, List.getD_cons_zero, List.getD_cons_succ, List.getD_nil, List.drop_succ_cons, List.drop_zero, List.take_succ_cons, List.take_zero, List.set_cons_zero, List.set_cons_succ, List.all_cons, List.all_nil, Bool.and_true, Bool.true_and, Bool.not_true, Bool.not_false, reduceCtorEq, if_true, if_false, Bool.false_eq_true, ↓reduceIte, Nat.reduceEqDiff, Nat.reduceAdd, Nat.reduceSub, Nat.reduceMul, Nat.reduceLeDiff, Nat.reduceLT, ne_eq, not_false_eq_true, not_true_eq_false, Nat.one_ne_zero, Nat.zero_ne_one]
    simp
  · rintro J hJ k hk
    simp only [done_eq, done_eq', donet_eq, donet_eq', fin_val, fin_tup, fin_agg, fin_ro, res_one, res_more, rv_t, rv_c, rv_l, AV.tup.injEq, AV.agg.injEq, AV.ro.injEq, List.cons.injEq, int_eq, bool_eq, Int.toNat_natCast, Int.reduceToNat, Int.toNat_zero, Int.toNat_one, Int.reduceLE, Int.reduceLT, Int.reduceBEq, Int.reduceBNe, beq_self_eq_true, bne_self_eq_false, decide_true, decide_false,  Int.reduceNeg, toNat_pred, toNat_succ, List.length_map, cnd_t, cnd_f, grd_tt, grd_u, grd_tf, grd_ft, grd_ff, g_skip, g_ops, g_seq, g_block, g_exit, g_ret, x_c, x_o, x_l, x_b, g_b, g_nil, r_all, o_nil, g_cond, o_guard, o_call, o_callm, o_callx, o_callv, lk, ef, o_mv, o_pick, o_bin, o_never, o_eqs, o_eqb, o_un, o_conv, o_load, o_loadr, o_idxr, o_loads, o_fld, o_idx, o_idxs, o_len, o_lens, o_ext, o_nilck, o_slc, o_slcs, o_build, o_minmax, o_mkfn, o_alloc, o_box, o_boxs, o_row, o_rowr, o_mk, o_asg, o_app, o_store, o_stores, o_eqnil, hv, eqAV, ev, view_t, view_c, view_nil, view_fn, look_own, look_box, look_junk, look_val, look_nilsl, look_ro, look_roAt, look_agg, look_tup, look_clo, look_alias, look_ref, look_into, rowOf, cellsOf, argv, vbin, vun, bnd, elemOf, putParts, setAt, zav, ASt.rid, ASt.free, AV.kill, AV.isHome, AV.noLoan, AV.cellOK, Value.oneCell', put_at, mk_at, mk_nil, initSt, true_and, and_true, and_self, implies_true, List.map_cons, List.map_nil, List.forall_mem_cons, List.not_mem_nil, false_implies, List.length_cons, List.length_nil, List.getD_cons_zero, List.getD_cons_succ, List.getD_nil, List.drop_succ_cons, List.drop_zero, List.take_succ_cons, List.take_zero, List.set_cons_zero, List.set_cons_succ, List.all_cons, List.all_nil, Bool.and_true, Bool.true_and, Bool.not_true, Bool.not_false, reduceCtorEq, if_true, if_false, Bool.false_eq_true, ↓reduceIte, Nat.reduceEqDiff, Nat.reduceAdd, Nat.reduceSub, Nat.reduceMul, Nat.reduceLeDiff, Nat.reduceLT, ne_eq, not_false_eq_true, not_true_eq_false, Nat.one_ne_zero, Nat.zero_ne_one, r31_0, r31_1, r31_2, r31_3, r31_4, r31_5, r31_6, r31_7, r31_8, r31_9, p31, l31_0]
    refine condD (fun h => ?_) (fun h => ?_)
    · have hlt : k < l.length := by omega
      have hw := i_add1 k (by omega)
      repeat' first | (with_reducible refine condD (fun h => ?_) (fun h => ?_)) | (with_reducible refine condE (fun h => ?_) (fun h => ?_)) | (with_reducible refine condN (fun h => ?_) (fun h => ?_)) | (with_reducible refine condI (fun h => ?_) (fun h => ?_)) | (with_reducible refine condS (fun h => ?_) (fun h => ?_)) | (with_reducible refine guardD (by with_unfolding_all rfl) (fun h => ?_) (fun h => ?_)) | (with_reducible refine guardE (by with_unfolding_all rfl) (fun h => ?_) (fun h => ?_)) | (with_reducible refine guardN (by with_unfolding_all rfl) (fun h => ?_) (fun h => ?_)) | (with_reducible refine guardI (by with_unfolding_all rfl) (fun h => ?_) (fun h => ?_)) | (with_reducible refine guardS (by with_unfolding_all rfl) (fun h => ?_) (fun h => ?_)) | (with_reducible refine And.intro ?_ ?_; omega) | (simp only [done_eq, done_eq', donet_eq, donet_eq', fin_val, fin_tup, fin_agg, fin_ro, res_one, res_more, rv_t, rv_c, rv_l, AV.tup.injEq, AV.agg.injEq, AV.ro.injEq, List.cons.injEq, int_eq, bool_eq, Int.toNat_natCast, Int.reduceToNat, Int.toNat_zero, Int.toNat_one, Int.reduceLE, Int.reduceLT, Int.reduceBEq, Int.reduceBNe, beq_self_eq_true, bne_self_eq_false, decide_true, decide_false,  Int.reduceNeg, toNat_pred, toNat_succ, List.length_map, cnd_t, cnd_f, grd_tt, grd_u, grd_tf, grd_ft, grd_ff, g_skip, g_ops, g_seq, g_block, g_exit, g_ret, x_c, x_o, x_l, x_b, g_b, g_nil, r_all, o_nil, g_cond, o_guard, o_call, o_callm, o_callx, o_callv, lk, ef, o_mv, o_pick, o_bin, o_never, o_eqs, o_eqb, o_un, o_conv, o_load, o_loadr, o_idxr, o_loads, o_fld, o_idx, o_idxs, o_len, o_lens, o_ext, o_nilck, o_slc, o_slcs, o_build, o_minmax, o_mkfn, o_alloc, o_box, o_boxs, o_row, o_rowr, o_mk, o_asg, o_app, o_store, o_stores, o_eqnil, hv, eqAV, ev, view_t, view_c, view_nil, view_fn, look_own, look_box, look_junk, look_val, look_nilsl, look_ro, look_roAt, look_agg, look_tup, look_clo, look_alias, look_ref, look_into, rowOf, cellsOf, argv, vbin, vun, bnd, elemOf, putParts, setAt, zav, ASt.rid, ASt.free, AV.kill, AV.isHome, AV.noLoan, AV.cellOK, Value.oneCell', put_at, mk_at, mk_nil, initSt, true_and, and_true, and_self, implies_true, List.map_cons, List.map_nil, List.forall_mem_cons, List.not_mem_nil, false_implies, List.length_cons, List.length_nil, List.getD_cons_zero, List.getD_cons_succ, List.getD_nil, List.drop_succ_cons, List.drop_zero, List.take_succ_cons, List.take_zero, List.set_cons_zero, List.set_cons_succ, List.all_cons, List.all_nil, Bool.and_true, Bool.true_and, Bool.not_true, Bool.not_false, reduceCtorEq, if_true, if_false, Bool.false_eq_true, ↓reduceIte, Nat.reduceEqDiff, Nat.reduceAdd, Nat.reduceSub, Nat.reduceMul, Nat.reduceLeDiff, Nat.reduceLT, ne_eq, not_false_eq_true, not_true_eq_false, Nat.one_ne_zero, Nat.zero_ne_one, r31_0, r31_1, r31_2, r31_3, r31_4, r31_5, r31_6, r31_7, r31_8, r31_9, p31, l31_0, Sp.av, getD_map hlt]) | (exfalso; omega)
      exact again hJ (k + 1) (weak_mk (by simp only [wk_cons, wk_nil, wk1, vint_eq, vbool_eq, AV.val.injEq, done_eq, done_eq', donet_eq, donet_eq', fin_val, fin_tup, fin_agg, fin_ro, res_one, res_more, rv_t, rv_c, rv_l, AV.tup.injEq, AV.agg.injEq, AV.ro.injEq, List.cons.injEq, int_eq, bool_eq, Int.toNat_natCast, Int.reduceToNat, Int.toNat_zero, Int.toNat_one, Int.reduceLE, Int.reduceLT, Int.reduceBEq, Int.reduceBNe, beq_self_eq_true, bne_self_eq_false, decide_true, decide_false,  Int.reduceNeg, toNat_pred, toNat_succ, List.length_map, cnd_t, cnd_f, grd_tt, grd_u, grd_tf, grd_ft, grd_ff, g_skip, g_ops, g_seq, g_block, g_exit, g_ret, x_c, x_o, x_l, x_b, g_b, g_nil, r_all, o_nil, g_cond, o_guard, o_call, o_callm, o_callx, o_callv, lk, ef, o_mv, o_pick, o_bin, o_never, o_eqs, o_eqb, o_un, o_conv, o_load, o_loadr, o_idxr, o_loads, o_fld, o_idx, o_idxs, o_len, o_lens, o_ext, o_nilck, o_slc, o_slcs, o_build, o_minmax, o_mkfn, o_alloc, o_box, o_boxs, o_row, o_rowr, o_mk, o_asg, o_app, o_store, o_stores, o_eqnil, hv, eqAV, ev, view_t, view_c, view_nil, view_fn, look_own, look_box, look_junk, look_val, look_nilsl, look_ro, look_roAt, look_agg, look_tup, look_clo, look_alias, look_ref, look_into, rowOf, cellsOf, argv, vbin, vun, bnd, elemOf, putParts, setAt, zav, ASt.rid, ASt.free, AV.kill, AV.isHome, AV.noLoan, AV.cellOK, Value.oneCell', put_at, mk_at, mk_nil, initSt, true_and, and_true, and_self, implies_true, List.map_cons, List.map_nil, List.forall_mem_cons, List.not_mem_nil, false_implies, List.length_cons, List.length_nil, List.getD_cons_zero, List.getD_cons_succ, List.getD_nil, List.drop_succ_cons, List.drop_zero, List.take_succ_cons, List.take_zero, List.set_cons_zero, List.set_cons_succ, List.all_cons, List.all_nil, Bool.and_true, Bool.true_and, Bool.not_true, Bool.not_false, reduceCtorEq, if_true, if_false, Bool.false_eq_true, ↓reduceIte, Nat.reduceEqDiff, Nat.reduceAdd, Nat.reduceSub, Nat.reduceMul, Nat.reduceLeDiff, Nat.reduceLT, ne_eq, not_false_eq_true, not_true_eq_false, Nat.one_ne_zero, Nat.zero_ne_one]; exact hw)) (by omega) (by omega)
    · repeat' first | (with_reducible refine condD (fun h => ?_) (fun h => ?_)) | (with_reducible refine condE (fun h => ?_) (fun h => ?_)) | (with_reducible refine condN (fun h => ?_) (fun h => ?_)) | (with_reducible refine condI (fun h => ?_) (fun h => ?_)) | (with_reducible refine condS (fun h => ?_) (fun h => ?_)) | (with_reducible refine guardD (by with_unfolding_all rfl) (fun h => ?_) (fun h => ?_)) | (with_reducible refine guardE (by with_unfolding_all rfl) (fun h => ?_) (fun h => ?_)) | (with_reducible refine guardN (by with_unfolding_all rfl) (fun h => ?_) (fun h => ?_)) | (with_reducible refine guardI (by with_unfolding_all rfl) (fun h => ?_) (fun h => ?_)) | (with_reducible refine guardS (by with_unfolding_all rfl) (fun h => ?_) (fun h => ?_)) | (with_reducible refine And.intro ?_ ?_; omega) | (simp only [done_eq, done_eq', donet_eq, donet_eq', fin_val, fin_tup, fin_agg, fin_ro, res_one, res_more, rv_t, rv_c, rv_l, AV.tup.injEq, AV.agg.injEq, AV.ro.injEq, List.cons.injEq, int_eq, bool_eq, Int.toNat_natCast, Int.reduceToNat, Int.toNat_zero, Int.toNat_one, Int.reduceLE, Int.reduceLT, Int.reduceBEq, Int.reduceBNe, beq_self_eq_true, bne_self_eq_false, decide_true, decide_false,  Int.reduceNeg, toNat_pred, toNat_succ, List.length_map, cnd_t, cnd_f, grd_tt, grd_u, grd_tf, grd_ft, grd_ff, g_skip, g_ops, g_seq, g_block, g_exit, g_ret, x_c, x_o, x_l, x_b, g_b, g_nil, r_all, o_nil, g_cond, o_guard, o_call, o_callm, o_callx, o_callv, lk, ef, o_mv, o_pick, o_bin, o_never, o_eqs, o_eqb, o_un, o_conv, o_load, o_loadr, o_idxr, o_loads, o_fld, o_idx, o_idxs, o_len, o_lens, o_ext, o_nilck, o_slc, o_slcs, o_build, o_minmax, o_mkfn, o_alloc, o_box, o_boxs, o_row, o_rowr, o_mk, o_asg, o_app, o_store, o_stores, o_eqnil, hv, eqAV, ev, view_t, view_c, view_nil, view_fn, look_own, look_box, look_junk, look_val, look_nilsl, look_ro, look_roAt, look_agg, look_tup, look_clo, look_alias, look_ref, look_into, rowOf, cellsOf, argv, vbin, vun, bnd, elemOf, putParts, setAt, zav, ASt.rid, ASt.free, AV.kill, AV.isHome, AV.noLoan, AV.cellOK, Value.oneCell', put_at, mk_at, mk_nil, initSt, true_and, and_true, and_self, implies_true, List.map_cons, List.map_nil, List.forall_mem_cons, List.not_mem_nil, false_implies, List.length_cons, List.length_nil, List.getD_cons_zero, List.getD_cons_succ, List.getD_nil, List.drop_succ_cons, List.drop_zero, List.take_succ_cons, List.take_zero, List.set_cons_zero, List.set_cons_succ, List.all_cons, List.all_nil, Bool.and_true, Bool.true_and, Bool.not_true, Bool.not_false, reduceCtorEq, if_true, if_false, Bool.false_eq_true, ↓reduceIte, Nat.reduceEqDiff, Nat.reduceAdd, Nat.reduceSub, Nat.reduceMul, Nat.reduceLeDiff, Nat.reduceLT, ne_eq, not_false_eq_true, not_true_eq_false, Nat.one_ne_zero, Nat.zero_ne_one, r31_0, r31_1, r31_2, r31_3, r31_4, r31_5, r31_6, r31_7, r31_8, r31_9, p31, l31_0]) | (exfalso; omega)
theorem all_sp (x : List AV) (h : HasAll [.int .i64, .int .i64] x) : ∃ s : Sp, x = s.av ∧ True := by
  obtain ⟨v0, r, rfl, h0, h⟩ := all_cons h
  obtain ⟨v1, r, rfl, h1, h⟩ := all_cons h
  obtain rfl := all_nil h
  obtain ⟨n0, rfl, _⟩ := has_int h0
  obtain ⟨n1, rfl, _⟩ := has_int h1
  exact ⟨⟨n0, n1⟩, rfl, trivial⟩
end Go.Proofs.Ytlpbnpmmndcleaa
