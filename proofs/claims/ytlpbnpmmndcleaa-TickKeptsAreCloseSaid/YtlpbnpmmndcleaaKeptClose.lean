/- TickKeptsAreClose: the clock with the anchors that are needed differs at no anchor by more than the slack. For every input; no condition. -/
import Derived.Test.YtlpbnpmmndcleaaKClk
import Derived.Test.YtlpbnpmmndcleaaRows
namespace Go.Proofs.Ytlpbnpmmndcleaa
open Go.RowKit
set_option linter.unusedSimpArgs false

theorem lastA_late {m : Int} : ∀ {l : List Anc} {a : Anc}, (∀ x ∈ l, m < x.media) → lastA m a l = a
  | [], _, _ => rfl
  | x :: r, a, h => by
    rw [lastA, if_neg (by have := h x List.mem_cons_self; omega)]
    exact lastA_late fun y hy => h y (List.mem_cons_of_mem _ hy)
theorem keptGo_mem (scale slack : Int) : ∀ (l : List Anc) (c x : Anc), x ∈ keptGo scale slack c l → x ∈ l
  | [], _, _, h => by simp [keptGo] at h
  | a :: r, c, x, h => by
    unfold keptGo at h
    split at h
    · rcases List.mem_cons.1 h with rfl | h
      · exact List.mem_cons_self
      · exact List.mem_cons_of_mem _ (keptGo_mem scale slack r a x h)
    · exact List.mem_cons_of_mem _ (keptGo_mem scale slack r c x h)
theorem byF_own (a : Anc) (scale : Int) : byF a scale a.media = a.wall := by simp [byF]
theorem kept_near (scale slack : Int) (hs : 0 ≤ slack) : ∀ (l : List Anc) (c : Anc), l.Pairwise (fun a b => a.media < b.media) → (∀ x ∈ l, c.media < x.media) → ∀ a ∈ l, byF (lastA a.media c (keptGo scale slack c l)) scale a.media - a.wall ≤ slack ∧ -slack ≤ byF (lastA a.media c (keptGo scale slack c l)) scale a.media - a.wall
  | [], _, _, _, a, h => by simp at h
  | b :: r, c, hp, hc, a, h => by
    obtain ⟨h1, h2⟩ := List.pairwise_cons.1 hp
    unfold keptGo
    split
    · rw [lastA]
      rcases List.mem_cons.1 h with rfl | h
      · rw [if_pos (Int.le_refl _), lastA_late fun x hx => h1 x (keptGo_mem scale slack r _ x hx), byF_own]; omega
      · have := h1 a h
        rw [if_pos (by omega)]
        exact kept_near scale slack hs r b h2 h1 a h
    · rename_i hk
      rcases List.mem_cons.1 h with rfl | h
      · rw [lastA_late fun x hx => h1 x (keptGo_mem scale slack r _ x hx)]; omega
      · exact kept_near scale slack hs r c h2 (fun x hx => hc x (List.mem_cons_of_mem _ hx)) a h
theorem keptF_no {l : List Anc} {scale slack : Int} (h : (keptF l scale slack).2 ≠ 0) : (keptF l scale slack).1 = [] := by
  unfold keptF at h ⊢
  split
  · rfl
  · split
    · rfl
    · rename_i h1 h2
      rw [if_neg h1, if_neg h2] at h
      exact absurd rfl h
theorem keptF_ok {l : List Anc} {scale slack : Int} (h : (keptF l scale slack).2 = 0) : clsF l scale = 0 ∧ outB slack 0 253402300799999 = false ∧ ∃ x r, l = x :: r ∧ (keptF l scale slack).1 = x :: keptGo scale slack x r := by
  unfold keptF at h ⊢
  split at h
  · rename_i h1; exact absurd h h1
  · split at h
    · cases h
    · rename_i h1 h2
      rw [if_neg h1, if_neg h2]
      have h3 : clsF l scale = 0 := by simpa using h1
      obtain ⟨l0, _⟩ := clkF_0 (clsF_0 h3).1
      cases l with
      | nil => simp at l0
      | cons x r => exact ⟨h3, by simpa using h2, x, r, rfl, rfl⟩
theorem wallF_no {l : List Anc} {scale m : Int} (h : (wallF l scale m).2 ≠ 0) : (wallF l scale m).1 = 0 := by
  unfold wallF at h ⊢
  split
  · rfl
  · split
    · rfl
    · split
      · rfl
      · rename_i h1 h2 h3
        rw [if_neg h1, if_neg h2, if_neg h3] at h
        exact absurd rfl h
theorem wallF_ok {l : List Anc} {scale m : Int} (h : (wallF l scale m).2 = 0) : clsF l scale = 0 ∧ noTime m = false ∧ outB (wallF l scale m).1 0 253402300799999 = false ∧ (wallF l scale m).1 = byF (lastA m (l.getD 0 ⟨0, 0⟩) l) scale m := by
  unfold wallF at h ⊢
  split at h
  · rename_i h1; exact absurd h h1
  · split at h
    · cases h
    · split at h
      · cases h
      · rename_i h1 h2 h3
        rw [if_neg h1, if_neg h2, if_neg h3]
        exact ⟨by simpa using h1, by simpa using h2, by simpa using h3, rfl⟩
theorem all_anc (x : List AV) (h : HasAll [.int .i64, .int .i64] x) : ∃ s : Anc, x = s.av ∧ True := by
  obtain ⟨v0, r, rfl, h0, h⟩ := all_cons h
  obtain ⟨v1, r, rfl, h1, h⟩ := all_cons h
  obtain rfl := all_nil h
  obtain ⟨n0, rfl, _⟩ := has_int h0
  obtain ⟨n1, rfl, _⟩ := has_int h1
  exact ⟨⟨n0, n1⟩, rfl, trivial⟩

/-! headend/headendlaw1.TickKeptsAreClose -/
def r9_0 : List POp := [⟨6, .asg (.c (.bool false)), none⟩]
def r9_1 : List POp := [⟨14, .mv (.t 0), none⟩,
  ⟨15, .mv (.t 1), none⟩,
  ⟨16, .mv (.t 2), none⟩,
  ⟨17, .call 24 [.t 14, .t 15, .t 16], none⟩,
  ⟨13, .mv (.t 17), none⟩,
  ⟨18, .ext 0 (.t 13), none⟩,
  ⟨19, .ext 1 (.t 13), none⟩,
  ⟨7, .asg (.t 18), none⟩,
  ⟨8, .mv (.t 19), none⟩]
def r9_2 : List POp := [⟨20, .mv (.t 8), none⟩,
  ⟨21, .bin .neq (.t 20) (.c (.int .i64 0)), none⟩]
def r9_3 : List POp := [⟨22, .mv (.t 7), none⟩,
  ⟨23, .len (.t 22), none⟩,
  ⟨24, .bin .eql (.t 23) (.c (.int .i64 0)), none⟩,
  ⟨25, .mv (.t 24), none⟩,
  ⟨26, .call 14 [], some (25, true)⟩,
  ⟨27, .pick (.t 25) (.t 26) (.c (.bool false)), none⟩,
  ⟨6, .asg (.t 27), none⟩]
def r9_4 : List POp := [⟨9, .asg (.c (.int .i64 0)), none⟩]
def r9_5 : List POp := [⟨28, .mv (.t 9), none⟩,
  ⟨29, .mv (.t 0), none⟩,
  ⟨30, .len (.t 29), none⟩,
  ⟨31, .bin .lss (.t 28) (.t 30), none⟩]
def r9_7 : List POp := [⟨35, .mv (.t 7), none⟩,
  ⟨36, .mv (.t 1), none⟩,
  ⟨37, .mv (.t 0), none⟩,
  ⟨38, .mv (.t 9), none⟩,
  ⟨39, .idx 2 (.t 37) (.t 38), none⟩,
  ⟨40, .fld 0 (.t 39), none⟩,
  ⟨41, .load (.t 40), none⟩,
  ⟨42, .call 25 [.t 35, .t 36, .t 41], none⟩,
  ⟨34, .mv (.t 42), none⟩,
  ⟨43, .ext 0 (.t 34), none⟩,
  ⟨44, .ext 1 (.t 34), none⟩,
  ⟨10, .mv (.t 43), none⟩,
  ⟨11, .mv (.t 44), none⟩]
def r9_8 : List POp := [⟨45, .mv (.t 10), none⟩,
  ⟨46, .mv (.t 0), none⟩,
  ⟨47, .mv (.t 9), none⟩,
  ⟨48, .idx 2 (.t 46) (.t 47), none⟩,
  ⟨49, .fld 1 (.t 48), none⟩,
  ⟨50, .load (.t 49), none⟩,
  ⟨51, .bin .sub (.t 45) (.t 50), none⟩,
  ⟨12, .asg (.t 51), none⟩]
def r9_9 : List POp := [⟨52, .mv (.t 11), none⟩,
  ⟨53, .bin .eql (.t 52) (.c (.int .i64 0)), none⟩,
  ⟨54, .mv (.t 53), none⟩,
  ⟨55, .mv (.t 12), some (54, true)⟩,
  ⟨56, .mv (.t 2), some (54, true)⟩,
  ⟨57, .bin .gtr (.t 55) (.t 56), some (54, true)⟩,
  ⟨58, .mv (.t 57), some (54, true)⟩,
  ⟨59, .mv (.t 12), some (58, false)⟩,
  ⟨60, .mv (.t 2), some (58, false)⟩,
  ⟨61, .un .neg (.t 60), some (58, false)⟩,
  ⟨62, .bin .lss (.t 59) (.t 61), some (58, false)⟩,
  ⟨63, .pick (.t 58) (.c (.bool true)) (.t 62), some (54, true)⟩,
  ⟨64, .pick (.t 54) (.t 63) (.c (.bool false)), none⟩]
def r9_10 : List POp := [⟨6, .asg (.c (.bool false)), none⟩]
def r9_6 : List POp := [⟨32, .mv (.t 9), none⟩,
  ⟨33, .bin .add (.t 32) (.c (.int .i64 1)), none⟩,
  ⟨9, .asg (.t 33), none⟩]
def r9_11 : List POp := [⟨65, .mv (.t 7), none⟩,
  ⟨66, .len (.t 65), none⟩,
  ⟨67, .bin .gtr (.t 66) (.c (.int .i64 0)), none⟩,
  ⟨68, .mv (.t 67), none⟩,
  ⟨69, .mv (.t 7), some (68, true)⟩,
  ⟨70, .idx 2 (.t 69) (.c (.int .i64 0)), some (68, true)⟩,
  ⟨71, .loads 2 (.t 70), some (68, true)⟩,
  ⟨72, .mv (.t 0), some (68, true)⟩,
  ⟨73, .idx 2 (.t 72) (.c (.int .i64 0)), some (68, true)⟩,
  ⟨74, .loads 2 (.t 73), some (68, true)⟩,
  ⟨75, .eqs false [0, 0] (.t 71) (.t 74), some (68, true)⟩,
  ⟨76, .pick (.t 68) (.t 75) (.c (.bool false)), none⟩,
  ⟨77, .mv (.t 76), none⟩,
  ⟨78, .call 14 [], some (77, true)⟩,
  ⟨79, .pick (.t 77) (.t 78) (.c (.bool false)), none⟩,
  ⟨6, .asg (.t 79), none⟩]
def l9_0 : PCode := .seq (.seq (.ops r9_5) (.cond (.t 31) (.skip) (.exit 0))) (.seq (.block 1 (.seq (.ops r9_7) (.seq (.ops r9_8) (.seq (.ops r9_9) (.cond (.t 64) (.seq (.ops r9_10) (.ret)) (.skip)))))) (.ops r9_6))
def p9 : PCode := .seq (.ops r9_0) (.seq (.ops r9_1) (.seq (.seq (.ops r9_2) (.cond (.t 21) (.seq (.ops r9_3) (.ret)) (.skip))) (.seq (.seq (.ops r9_4) (.block 0 (.loop l9_0))) (.seq (.ops r9_11) (.ret)))))
theorem ok9 : okFunc Try.prog 9 [.t 6] 3 p9 = true := by kernel_rfl
set_option maxHeartbeats 1000000 in
theorem keptclose_d (l : List Anc) (scale slack : Int) (hl0 : l.length ≤ 9223372036854775807) : CallOK Try.prog 9 [.ro (l.map Anc.av), .val (.int .i64 scale), .val (.int .i64 slack)] (.val (.bool true)) := by
  refine call_of mixed ok9 rfl ?_
  have hk := kept_c l scale slack hl0
  by_cases h0 : (keptF l scale slack).2 = 0
  · obtain ⟨hc, hsl, x, r, rfl, hK⟩ := keptF_ok h0
    rw [h0, hK] at hk
    obtain ⟨k0, ks⟩ := clsF_0 hc
    obtain ⟨_, l1, lb, lp⟩ := clkF_0 k0
    have bs := outB_f hsl
    obtain ⟨hp1, hp2⟩ := List.pairwise_cons.1 lp
    have hnear : ∀ a ∈ x :: r, byF (lastA a.media x (x :: keptGo scale slack x r)) scale a.media - a.wall ≤ slack ∧ -slack ≤ byF (lastA a.media x (x :: keptGo scale slack x r)) scale a.media - a.wall := by
      intro a ha
      rcases List.mem_cons.1 ha with rfl | ha
      · rw [lastA, if_pos (Int.le_refl _), lastA_late fun y hy => hp1 y (keptGo_mem scale slack r _ y hy), byF_own]; omega
      · have := hp1 a ha
        rw [lastA, if_pos (by omega)]
        exact kept_near scale slack (by omega) r x hp2 hp1 a ha
    have hkl : (x :: keptGo scale slack x r).length ≤ 1000000 := by
      have hg : ∀ (s : List Anc) (c : Anc), (keptGo scale slack c s).length ≤ s.length := by
        intro s
        induction s with
        | nil => intro c; simp [keptGo]
        | cons b s ih =>
          intro c
          unfold keptGo
          split
          · have := ih b; simp; omega
          · have := ih c; simp; omega
      have := hg r x
      simp only [List.length_cons] at l1 ⊢; omega
    clear hK h0 hc
    generalize hKe : keptGo scale slack x r = K at *
    obtain ⟨l, hl⟩ : ∃ l, l = x :: r := ⟨_, rfl⟩
    rw [← hl] at hk hnear lb l1 hl0 ⊢
    have hx0 : l.map Anc.av = x.av :: r.map Anc.av := by rw [hl]; rfl
    have w4 : IntKind.i64.wrap (0 - slack) = -slack := by rw [wrap_in (by omega) (by omega)]; omega
    repeat' first | (with_reducible refine condD (fun h => ?_) (fun h => ?_)) | (with_reducible refine condE (fun h => ?_) (fun h => ?_)) | (with_reducible refine condN (fun h => ?_) (fun h => ?_)) | (with_reducible refine condI (fun h => ?_) (fun h => ?_)) | (with_reducible refine condS (fun h => ?_) (fun h => ?_)) | (with_reducible refine guardD (by with_unfolding_all rfl) (fun h => ?_) (fun h => ?_)) | (with_reducible refine guardE (by with_unfolding_all rfl) (fun h => ?_) (fun h => ?_)) | (with_reducible refine guardN (by with_unfolding_all rfl) (fun h => ?_) (fun h => ?_)) | (with_reducible refine guardI (by with_unfolding_all rfl) (fun h => ?_) (fun h => ?_)) | (with_reducible refine guardS (by with_unfolding_all rfl) (fun h => ?_) (fun h => ?_)) | ((refine callG hk ?_)) | (with_reducible refine And.intro ?_ ?_; omega) | (simp only [done_eq, done_eq', fin_val, fin_tup, fin_agg, fin_ro, res_one, res_more, rv_t, rv_c, rv_l, AV.tup.injEq, AV.agg.injEq, AV.ro.injEq, List.cons.injEq, int_eq, bool_eq, Int.toNat_natCast, Int.reduceToNat, Int.toNat_zero, Int.toNat_one, Int.reduceLE, Int.reduceLT, Int.reduceBEq, Int.reduceBNe, beq_self_eq_true, bne_self_eq_false, decide_true, decide_false,  Int.reduceNeg, toNat_pred, toNat_succ, List.length_map, cnd_t, cnd_f, grd_tt, grd_u, grd_tf, grd_ft, grd_ff, g_skip, g_ops, g_seq, g_block, g_exit, g_ret, x_c, x_o, x_l, x_b, g_b, g_nil, r_all, o_nil, g_cond, o_guard, o_call, o_callv, lk, ef, o_mv, o_pick, o_bin, o_never, o_eqs, o_eqb, o_un, o_conv, o_load, o_loads, o_fld, o_idx, o_idxs, o_len, o_lens, o_ext, o_nilck, o_slc, o_slcs, o_build, o_minmax, o_mkfn, o_alloc, o_box, o_boxs, o_row, o_rowr, o_mk, o_asg, o_app, o_store, o_stores, hv, eqAV, ev, view_t, view_c, view_nil, view_fn, look_own, look_box, look_junk, look_val, look_nilsl, look_ro, look_roAt, look_agg, look_tup, look_clo, look_alias, look_ref, look_into, rowOf, cellsOf, argv, vbin, vun, bnd, elemOf, putParts, setAt, zav, ASt.rid, ASt.free, AV.kill, AV.isHome, AV.noLoan, AV.cellOK, Value.oneCell', put_at, mk_at, mk_nil, initSt, true_and, and_true, and_self, implies_true, List.map_cons, List.map_nil, List.forall_mem_cons, List.not_mem_nil, false_implies, List.length_cons, List.length_nil, List.getD_cons_zero, List.getD_cons_succ, List.getD_nil, List.drop_succ_cons, List.drop_zero, List.take_succ_cons, List.take_zero, List.set_cons_zero, List.set_cons_succ, List.all_cons, List.all_nil, Bool.and_true, Bool.true_and, Bool.not_true, Bool.not_false, reduceCtorEq, if_true, if_false, Bool.false_eq_true, ↓reduceIte, Nat.reduceEqDiff, Nat.reduceAdd, Nat.reduceSub, Nat.reduceMul, Nat.reduceLeDiff, Nat.reduceLT, ne_eq, not_false_eq_true, not_true_eq_false, Nat.one_ne_zero, Nat.zero_ne_one, r9_0, r9_1, r9_2, r9_3, r9_4, r9_5, r9_7, r9_8, r9_9, r9_10, r9_6, r9_11, p9]) | (exfalso; omega)
    refine loopS (fun k : Nat => mk [(0, .ro (l.map Anc.av)), (1, .val (.int .i64 scale)), (2, .val (.int .i64 slack)), (7, .ro ((x :: K).map Anc.av)), (9, .val (.int .i64 k))]) (fun k => k ≤ l.length) (fun k => l.length - k) 0 (weak_mk ?_) (Nat.zero_le _) ?_
    · simp only [wk_cons, wk_nil, wk1, vint_eq, vbool_eq, AV.val.injEq, done_eq, done_eq', fin_val, fin_tup, fin_agg, fin_ro, res_one, res_more, rv_t, rv_c, rv_l, AV.tup.injEq, AV.agg.injEq, AV.ro.injEq, List.cons.injEq, int_eq, bool_eq, Int.toNat_natCast, Int.reduceToNat, Int.toNat_zero, Int.toNat_one, Int.reduceLE, Int.reduceLT, Int.reduceBEq, Int.reduceBNe, beq_self_eq_true, bne_self_eq_false, decide_true, decide_false,  Int.reduceNeg, toNat_pred, toNat_succ, List.length_map, cnd_t, cnd_f, grd_tt, grd_u, grd_tf, grd_ft, grd_ff, g_skip, g_ops, g_seq, g_block, g_exit, g_ret, x_c, x_o, x_l, x_b, g_b, g_nil, r_all, o_nil, g_cond, o_guard, o_call, o_callv, lk, ef, o_mv, o_pick, o_bin, o_never, o_eqs, o_eqb, o_un, o_conv, o_load, o_loads, o_fld, o_idx, o_idxs, o_len, o_lens, o_ext, o_nilck, o_slc, o_slcs, o_build, o_minmax, o_mkfn, o_alloc, o_box, o_boxs, o_row, o_rowr, o_mk, o_asg, o_app, o_store, o_stores, hv, eqAV, ev, view_t, view_c, view_nil, view_fn, look_own, look_box, look_junk, look_val, look_nilsl, look_ro, look_roAt, look_agg, look_tup, look_clo, look_alias, look_ref, look_into, rowOf, cellsOf, argv, vbin, vun, bnd, elemOf, putParts, setAt, zav, ASt.rid, ASt.free, AV.kill, AV.isHome, AV.noLoan, AV.cellOK, Value.oneCell', put_at, mk_at, mk_nil, initSt, true_and, and_true, and_self, implies_true, List.map_cons, List.map_nil, List.forall_mem_cons, List.not_mem_nil, false_implies, List.length_cons, List.length_nil, List.getD_cons_zero, List.getD_cons_succ, List.getD_nil, List.drop_succ_cons, List.drop_zero, List.take_succ_cons, List.take_zero, List.set_cons_zero, List.set_cons_succ, List.all_cons, List.all_nil, Bool.and_true, Bool.true_and, Bool.not_true, Bool.not_false, reduceCtorEq, if_true, if_false, Bool.false_eq_true, ↓reduceIte, Nat.reduceEqDiff, Nat.reduceAdd, Nat.reduceSub, Nat.reduceMul, Nat.reduceLeDiff, Nat.reduceLT, ne_eq, not_false_eq_true, not_true_eq_false, Nat.one_ne_zero, Nat.zero_ne_one]
      rfl
    · rintro J hJ k hkl2
      simp only [done_eq, done_eq', fin_val, fin_tup, fin_agg, fin_ro, res_one, res_more, rv_t, rv_c, rv_l, AV.tup.injEq, AV.agg.injEq, AV.ro.injEq, List.cons.injEq, int_eq, bool_eq, Int.toNat_natCast, Int.reduceToNat, Int.toNat_zero, Int.toNat_one, Int.reduceLE, Int.reduceLT, Int.reduceBEq, Int.reduceBNe, beq_self_eq_true, bne_self_eq_false, decide_true, decide_false,  Int.reduceNeg, toNat_pred, toNat_succ, List.length_map, cnd_t, cnd_f, grd_tt, grd_u, grd_tf, grd_ft, grd_ff, g_skip, g_ops, g_seq, g_block, g_exit, g_ret, x_c, x_o, x_l, x_b, g_b, g_nil, r_all, o_nil, g_cond, o_guard, o_call, o_callv, lk, ef, o_mv, o_pick, o_bin, o_never, o_eqs, o_eqb, o_un, o_conv, o_load, o_loads, o_fld, o_idx, o_idxs, o_len, o_lens, o_ext, o_nilck, o_slc, o_slcs, o_build, o_minmax, o_mkfn, o_alloc, o_box, o_boxs, o_row, o_rowr, o_mk, o_asg, o_app, o_store, o_stores, hv, eqAV, ev, view_t, view_c, view_nil, view_fn, look_own, look_box, look_junk, look_val, look_nilsl, look_ro, look_roAt, look_agg, look_tup, look_clo, look_alias, look_ref, look_into, rowOf, cellsOf, argv, vbin, vun, bnd, elemOf, putParts, setAt, zav, ASt.rid, ASt.free, AV.kill, AV.isHome, AV.noLoan, AV.cellOK, Value.oneCell', put_at, mk_at, mk_nil, initSt, true_and, and_true, and_self, implies_true, List.map_cons, List.map_nil, List.forall_mem_cons, List.not_mem_nil, false_implies, List.length_cons, List.length_nil, List.getD_cons_zero, List.getD_cons_succ, List.getD_nil, List.drop_succ_cons, List.drop_zero, List.take_succ_cons, List.take_zero, List.set_cons_zero, List.set_cons_succ, List.all_cons, List.all_nil, Bool.and_true, Bool.true_and, Bool.not_true, Bool.not_false, reduceCtorEq, if_true, if_false, Bool.false_eq_true, ↓reduceIte, Nat.reduceEqDiff, Nat.reduceAdd, Nat.reduceSub, Nat.reduceMul, Nat.reduceLeDiff, Nat.reduceLT, ne_eq, not_false_eq_true, not_true_eq_false, Nat.one_ne_zero, Nat.zero_ne_one, r9_0, r9_1, r9_2, r9_3, r9_4, r9_5, r9_7, r9_8, r9_9, r9_10, r9_6, r9_11, p9, l9_0, List.length_map]
      refine condD (fun h => ?_) (fun h => ?_)
      · have hlt : k < l.length := by omega
        have hw := i_add1 k (by omega)
        have b1 := badAnc_bd (lb l[k] (List.getElem_mem hlt))
        have hwl := wall_c (x :: K) scale l[k].media (by omega)
        by_cases hf : (wallF (x :: K) scale l[k].media).2 = 0
        · obtain ⟨_, _, g3, g4⟩ := wallF_ok hf
          have b2 := outB_f g3
          have hn := hnear l[k] (List.getElem_mem hlt)
          rw [List.getD_cons_zero] at g4
          rw [← g4] at hn
          rw [hf] at hwl
          clear g3 g4
          generalize (wallF (x :: K) scale l[k].media).1 = W at *
          have v1 : IntKind.i64.wrap (W - l[k].wall) = W - l[k].wall := wrap_in (by omega) (by omega)
          have c1 : ¬ slack < W - l[k].wall := by omega
          have c2 : ¬ W - l[k].wall < -slack := by omega
          repeat' first | (with_reducible refine condD (fun h => ?_) (fun h => ?_)) | (with_reducible refine condE (fun h => ?_) (fun h => ?_)) | (with_reducible refine condN (fun h => ?_) (fun h => ?_)) | (with_reducible refine condI (fun h => ?_) (fun h => ?_)) | (with_reducible refine condS (fun h => ?_) (fun h => ?_)) | (with_reducible refine guardD (by with_unfolding_all rfl) (fun h => ?_) (fun h => ?_)) | (with_reducible refine guardE (by with_unfolding_all rfl) (fun h => ?_) (fun h => ?_)) | (with_reducible refine guardN (by with_unfolding_all rfl) (fun h => ?_) (fun h => ?_)) | (with_reducible refine guardI (by with_unfolding_all rfl) (fun h => ?_) (fun h => ?_)) | (with_reducible refine guardS (by with_unfolding_all rfl) (fun h => ?_) (fun h => ?_)) | ((refine callG hwl ?_)) | (with_reducible refine And.intro ?_ ?_; omega) | (simp only [done_eq, done_eq', fin_val, fin_tup, fin_agg, fin_ro, res_one, res_more, rv_t, rv_c, rv_l, AV.tup.injEq, AV.agg.injEq, AV.ro.injEq, List.cons.injEq, int_eq, bool_eq, Int.toNat_natCast, Int.reduceToNat, Int.toNat_zero, Int.toNat_one, Int.reduceLE, Int.reduceLT, Int.reduceBEq, Int.reduceBNe, beq_self_eq_true, bne_self_eq_false, decide_true, decide_false,  Int.reduceNeg, toNat_pred, toNat_succ, List.length_map, cnd_t, cnd_f, grd_tt, grd_u, grd_tf, grd_ft, grd_ff, g_skip, g_ops, g_seq, g_block, g_exit, g_ret, x_c, x_o, x_l, x_b, g_b, g_nil, r_all, o_nil, g_cond, o_guard, o_call, o_callv, lk, ef, o_mv, o_pick, o_bin, o_never, o_eqs, o_eqb, o_un, o_conv, o_load, o_loads, o_fld, o_idx, o_idxs, o_len, o_lens, o_ext, o_nilck, o_slc, o_slcs, o_build, o_minmax, o_mkfn, o_alloc, o_box, o_boxs, o_row, o_rowr, o_mk, o_asg, o_app, o_store, o_stores, hv, eqAV, ev, view_t, view_c, view_nil, view_fn, look_own, look_box, look_junk, look_val, look_nilsl, look_ro, look_roAt, look_agg, look_tup, look_clo, look_alias, look_ref, look_into, rowOf, cellsOf, argv, vbin, vun, bnd, elemOf, putParts, setAt, zav, ASt.rid, ASt.free, AV.kill, AV.isHome, AV.noLoan, AV.cellOK, Value.oneCell', put_at, mk_at, mk_nil, initSt, true_and, and_true, and_self, implies_true, List.map_cons, List.map_nil, List.forall_mem_cons, List.not_mem_nil, false_implies, List.length_cons, List.length_nil, List.getD_cons_zero, List.getD_cons_succ, List.getD_nil, List.drop_succ_cons, List.drop_zero, List.take_succ_cons, List.take_zero, List.set_cons_zero, List.set_cons_succ, List.all_cons, List.all_nil, Bool.and_true, Bool.true_and, Bool.not_true, Bool.not_false, reduceCtorEq, if_true, if_false, Bool.false_eq_true, ↓reduceIte, Nat.reduceEqDiff, Nat.reduceAdd, Nat.reduceSub, Nat.reduceMul, Nat.reduceLeDiff, Nat.reduceLT, ne_eq, not_false_eq_true, not_true_eq_false, Nat.one_ne_zero, Nat.zero_ne_one, r9_0, r9_1, r9_2, r9_3, r9_4, r9_5, r9_7, r9_8, r9_9, r9_10, r9_6, r9_11, p9, l9_0, Anc.av, getD_map hlt, v1, w4, c1, c2]) | (exfalso; omega)
          exact again hJ (k + 1) (weak_mk (by simp only [wk_cons, wk_nil, wk1, vint_eq, vbool_eq, AV.val.injEq, done_eq, done_eq', fin_val, fin_tup, fin_agg, fin_ro, res_one, res_more, rv_t, rv_c, rv_l, AV.tup.injEq, AV.agg.injEq, AV.ro.injEq, List.cons.injEq, int_eq, bool_eq, Int.toNat_natCast, Int.reduceToNat, Int.toNat_zero, Int.toNat_one, Int.reduceLE, Int.reduceLT, Int.reduceBEq, Int.reduceBNe, beq_self_eq_true, bne_self_eq_false, decide_true, decide_false,  Int.reduceNeg, toNat_pred, toNat_succ, List.length_map, cnd_t, cnd_f, grd_tt, grd_u, grd_tf, grd_ft, grd_ff, g_skip, g_ops, g_seq, g_block, g_exit, g_ret, x_c, x_o, x_l, x_b, g_b, g_nil, r_all, o_nil, g_cond, o_guard, o_call, o_callv, lk, ef, o_mv, o_pick, o_bin, o_never, o_eqs, o_eqb, o_un, o_conv, o_load, o_loads, o_fld, o_idx, o_idxs, o_len, o_lens, o_ext, o_nilck, o_slc, o_slcs, o_build, o_minmax, o_mkfn, o_alloc, o_box, o_boxs, o_row, o_rowr, o_mk, o_asg, o_app, o_store, o_stores, hv, eqAV, ev, view_t, view_c, view_nil, view_fn, look_own, look_box, look_junk, look_val, look_nilsl, look_ro, look_roAt, look_agg, look_tup, look_clo, look_alias, look_ref, look_into, rowOf, cellsOf, argv, vbin, vun, bnd, elemOf, putParts, setAt, zav, ASt.rid, ASt.free, AV.kill, AV.isHome, AV.noLoan, AV.cellOK, Value.oneCell', put_at, mk_at, mk_nil, initSt, true_and, and_true, and_self, implies_true, List.map_cons, List.map_nil, List.forall_mem_cons, List.not_mem_nil, false_implies, List.length_cons, List.length_nil, List.getD_cons_zero, List.getD_cons_succ, List.getD_nil, List.drop_succ_cons, List.drop_zero, List.take_succ_cons, List.take_zero, List.set_cons_zero, List.set_cons_succ, List.all_cons, List.all_nil, Bool.and_true, Bool.true_and, Bool.not_true, Bool.not_false, reduceCtorEq, if_true, if_false, Bool.false_eq_true, ↓reduceIte, Nat.reduceEqDiff, Nat.reduceAdd, Nat.reduceSub, Nat.reduceMul, Nat.reduceLeDiff, Nat.reduceLT, ne_eq, not_false_eq_true, not_true_eq_false, Nat.one_ne_zero, Nat.zero_ne_one] <;> simp [Anc.av, hw])) (by omega) (by omega)
        · rw [wallF_no hf] at hwl
          generalize (wallF (x :: K) scale l[k].media).2 = F at *
          repeat' first | (with_reducible refine condD (fun h => ?_) (fun h => ?_)) | (with_reducible refine condE (fun h => ?_) (fun h => ?_)) | (with_reducible refine condN (fun h => ?_) (fun h => ?_)) | (with_reducible refine condI (fun h => ?_) (fun h => ?_)) | (with_reducible refine condS (fun h => ?_) (fun h => ?_)) | (with_reducible refine guardD (by with_unfolding_all rfl) (fun h => ?_) (fun h => ?_)) | (with_reducible refine guardE (by with_unfolding_all rfl) (fun h => ?_) (fun h => ?_)) | (with_reducible refine guardN (by with_unfolding_all rfl) (fun h => ?_) (fun h => ?_)) | (with_reducible refine guardI (by with_unfolding_all rfl) (fun h => ?_) (fun h => ?_)) | (with_reducible refine guardS (by with_unfolding_all rfl) (fun h => ?_) (fun h => ?_)) | ((refine callG hwl ?_)) | (with_reducible refine And.intro ?_ ?_; omega) | (simp only [done_eq, done_eq', fin_val, fin_tup, fin_agg, fin_ro, res_one, res_more, rv_t, rv_c, rv_l, AV.tup.injEq, AV.agg.injEq, AV.ro.injEq, List.cons.injEq, int_eq, bool_eq, Int.toNat_natCast, Int.reduceToNat, Int.toNat_zero, Int.toNat_one, Int.reduceLE, Int.reduceLT, Int.reduceBEq, Int.reduceBNe, beq_self_eq_true, bne_self_eq_false, decide_true, decide_false,  Int.reduceNeg, toNat_pred, toNat_succ, List.length_map, cnd_t, cnd_f, grd_tt, grd_u, grd_tf, grd_ft, grd_ff, g_skip, g_ops, g_seq, g_block, g_exit, g_ret, x_c, x_o, x_l, x_b, g_b, g_nil, r_all, o_nil, g_cond, o_guard, o_call, o_callv, lk, ef, o_mv, o_pick, o_bin, o_never, o_eqs, o_eqb, o_un, o_conv, o_load, o_loads, o_fld, o_idx, o_idxs, o_len, o_lens, o_ext, o_nilck, o_slc, o_slcs, o_build, o_minmax, o_mkfn, o_alloc, o_box, o_boxs, o_row, o_rowr, o_mk, o_asg, o_app, o_store, o_stores, hv, eqAV, ev, view_t, view_c, view_nil, view_fn, look_own, look_box, look_junk, look_val, look_nilsl, look_ro, look_roAt, look_agg, look_tup, look_clo, look_alias, look_ref, look_into, rowOf, cellsOf, argv, vbin, vun, bnd, elemOf, putParts, setAt, zav, ASt.rid, ASt.free, AV.kill, AV.isHome, AV.noLoan, AV.cellOK, Value.oneCell', put_at, mk_at, mk_nil, initSt, true_and, and_true, and_self, implies_true, List.map_cons, List.map_nil, List.forall_mem_cons, List.not_mem_nil, false_implies, List.length_cons, List.length_nil, List.getD_cons_zero, List.getD_cons_succ, List.getD_nil, List.drop_succ_cons, List.drop_zero, List.take_succ_cons, List.take_zero, List.set_cons_zero, List.set_cons_succ, List.all_cons, List.all_nil, Bool.and_true, Bool.true_and, Bool.not_true, Bool.not_false, reduceCtorEq, if_true, if_false, Bool.false_eq_true, ↓reduceIte, Nat.reduceEqDiff, Nat.reduceAdd, Nat.reduceSub, Nat.reduceMul, Nat.reduceLeDiff, Nat.reduceLT, ne_eq, not_false_eq_true, not_true_eq_false, Nat.one_ne_zero, Nat.zero_ne_one, r9_0, r9_1, r9_2, r9_3, r9_4, r9_5, r9_7, r9_8, r9_9, r9_10, r9_6, r9_11, p9, l9_0, Anc.av, getD_map hlt, bne0_t hf, beq0_f hf]) | (exfalso; omega)
          exact again hJ (k + 1) (weak_mk (by simp only [wk_cons, wk_nil, wk1, vint_eq, vbool_eq, AV.val.injEq, done_eq, done_eq', fin_val, fin_tup, fin_agg, fin_ro, res_one, res_more, rv_t, rv_c, rv_l, AV.tup.injEq, AV.agg.injEq, AV.ro.injEq, List.cons.injEq, int_eq, bool_eq, Int.toNat_natCast, Int.reduceToNat, Int.toNat_zero, Int.toNat_one, Int.reduceLE, Int.reduceLT, Int.reduceBEq, Int.reduceBNe, beq_self_eq_true, bne_self_eq_false, decide_true, decide_false,  Int.reduceNeg, toNat_pred, toNat_succ, List.length_map, cnd_t, cnd_f, grd_tt, grd_u, grd_tf, grd_ft, grd_ff, g_skip, g_ops, g_seq, g_block, g_exit, g_ret, x_c, x_o, x_l, x_b, g_b, g_nil, r_all, o_nil, g_cond, o_guard, o_call, o_callv, lk, ef, o_mv, o_pick, o_bin, o_never, o_eqs, o_eqb, o_un, o_conv, o_load, o_loads, o_fld, o_idx, o_idxs, o_len, o_lens, o_ext, o_nilck, o_slc, o_slcs, o_build, o_minmax, o_mkfn, o_alloc, o_box, o_boxs, o_row, o_rowr, o_mk, o_asg, o_app, o_store, o_stores, hv, eqAV, ev, view_t, view_c, view_nil, view_fn, look_own, look_box, look_junk, look_val, look_nilsl, look_ro, look_roAt, look_agg, look_tup, look_clo, look_alias, look_ref, look_into, rowOf, cellsOf, argv, vbin, vun, bnd, elemOf, putParts, setAt, zav, ASt.rid, ASt.free, AV.kill, AV.isHome, AV.noLoan, AV.cellOK, Value.oneCell', put_at, mk_at, mk_nil, initSt, true_and, and_true, and_self, implies_true, List.map_cons, List.map_nil, List.forall_mem_cons, List.not_mem_nil, false_implies, List.length_cons, List.length_nil, List.getD_cons_zero, List.getD_cons_succ, List.getD_nil, List.drop_succ_cons, List.drop_zero, List.take_succ_cons, List.take_zero, List.set_cons_zero, List.set_cons_succ, List.all_cons, List.all_nil, Bool.and_true, Bool.true_and, Bool.not_true, Bool.not_false, reduceCtorEq, if_true, if_false, Bool.false_eq_true, ↓reduceIte, Nat.reduceEqDiff, Nat.reduceAdd, Nat.reduceSub, Nat.reduceMul, Nat.reduceLeDiff, Nat.reduceLT, ne_eq, not_false_eq_true, not_true_eq_false, Nat.one_ne_zero, Nat.zero_ne_one] <;> simp [Anc.av, hw])) (by omega) (by omega)
      · have hp : (0 : Int) < ((K.length + 1 : Nat) : Int) := by omega
        have hll : (0 : Int) < l.length := by rw [hl, List.length_cons]; omega
        repeat' first | (with_reducible refine condD (fun h => ?_) (fun h => ?_)) | (with_reducible refine condE (fun h => ?_) (fun h => ?_)) | (with_reducible refine condN (fun h => ?_) (fun h => ?_)) | (with_reducible refine condI (fun h => ?_) (fun h => ?_)) | (with_reducible refine condS (fun h => ?_) (fun h => ?_)) | (with_reducible refine guardD (by with_unfolding_all rfl) (fun h => ?_) (fun h => ?_)) | (with_reducible refine guardE (by with_unfolding_all rfl) (fun h => ?_) (fun h => ?_)) | (with_reducible refine guardN (by with_unfolding_all rfl) (fun h => ?_) (fun h => ?_)) | (with_reducible refine guardI (by with_unfolding_all rfl) (fun h => ?_) (fun h => ?_)) | (with_reducible refine guardS (by with_unfolding_all rfl) (fun h => ?_) (fun h => ?_)) | ((refine callG awake1_c ?_)) | (with_reducible refine And.intro ?_ ?_; omega) | (simp only [done_eq, done_eq', fin_val, fin_tup, fin_agg, fin_ro, res_one, res_more, rv_t, rv_c, rv_l, AV.tup.injEq, AV.agg.injEq, AV.ro.injEq, List.cons.injEq, int_eq, bool_eq, Int.toNat_natCast, Int.reduceToNat, Int.toNat_zero, Int.toNat_one, Int.reduceLE, Int.reduceLT, Int.reduceBEq, Int.reduceBNe, beq_self_eq_true, bne_self_eq_false, decide_true, decide_false,  Int.reduceNeg, toNat_pred, toNat_succ, List.length_map, cnd_t, cnd_f, grd_tt, grd_u, grd_tf, grd_ft, grd_ff, g_skip, g_ops, g_seq, g_block, g_exit, g_ret, x_c, x_o, x_l, x_b, g_b, g_nil, r_all, o_nil, g_cond, o_guard, o_call, o_callv, lk, ef, o_mv, o_pick, o_bin, o_never, o_eqs, o_eqb, o_un, o_conv, o_load, o_loads, o_fld, o_idx, o_idxs, o_len, o_lens, o_ext, o_nilck, o_slc, o_slcs, o_build, o_minmax, o_mkfn, o_alloc, o_box, o_boxs, o_row, o_rowr, o_mk, o_asg, o_app, o_store, o_stores, hv, eqAV, ev, view_t, view_c, view_nil, view_fn, look_own, look_box, look_junk, look_val, look_nilsl, look_ro, look_roAt, look_agg, look_tup, look_clo, look_alias, look_ref, look_into, rowOf, cellsOf, argv, vbin, vun, bnd, elemOf, putParts, setAt, zav, ASt.rid, ASt.free, AV.kill, AV.isHome, AV.noLoan, AV.cellOK, Value.oneCell', put_at, mk_at, mk_nil, initSt, true_and, and_true, and_self, implies_true, List.map_cons, List.map_nil, List.forall_mem_cons, List.not_mem_nil, false_implies, List.length_cons, List.length_nil, List.getD_cons_zero, List.getD_cons_succ, List.getD_nil, List.drop_succ_cons, List.drop_zero, List.take_succ_cons, List.take_zero, List.set_cons_zero, List.set_cons_succ, List.all_cons, List.all_nil, Bool.and_true, Bool.true_and, Bool.not_true, Bool.not_false, reduceCtorEq, if_true, if_false, Bool.false_eq_true, ↓reduceIte, Nat.reduceEqDiff, Nat.reduceAdd, Nat.reduceSub, Nat.reduceMul, Nat.reduceLeDiff, Nat.reduceLT, ne_eq, not_false_eq_true, not_true_eq_false, Nat.one_ne_zero, Nat.zero_ne_one, r9_0, r9_1, r9_2, r9_3, r9_4, r9_5, r9_7, r9_8, r9_9, r9_10, r9_6, r9_11, p9, l9_0, Anc.av, hx0, hp, hll]) | (exfalso; omega)
        all_goals skip
  · rw [keptF_no h0] at hk
    generalize (keptF l scale slack).2 = e at *
    repeat' first | (with_reducible refine condD (fun h => ?_) (fun h => ?_)) | (with_reducible refine condE (fun h => ?_) (fun h => ?_)) | (with_reducible refine condN (fun h => ?_) (fun h => ?_)) | (with_reducible refine condI (fun h => ?_) (fun h => ?_)) | (with_reducible refine condS (fun h => ?_) (fun h => ?_)) | (with_reducible refine guardD (by with_unfolding_all rfl) (fun h => ?_) (fun h => ?_)) | (with_reducible refine guardE (by with_unfolding_all rfl) (fun h => ?_) (fun h => ?_)) | (with_reducible refine guardN (by with_unfolding_all rfl) (fun h => ?_) (fun h => ?_)) | (with_reducible refine guardI (by with_unfolding_all rfl) (fun h => ?_) (fun h => ?_)) | (with_reducible refine guardS (by with_unfolding_all rfl) (fun h => ?_) (fun h => ?_)) | ((refine callG hk ?_)) | ((refine callG awake1_c ?_)) | (with_reducible refine And.intro ?_ ?_; omega) | (simp only [done_eq, done_eq', fin_val, fin_tup, fin_agg, fin_ro, res_one, res_more, rv_t, rv_c, rv_l, AV.tup.injEq, AV.agg.injEq, AV.ro.injEq, List.cons.injEq, int_eq, bool_eq, Int.toNat_natCast, Int.reduceToNat, Int.toNat_zero, Int.toNat_one, Int.reduceLE, Int.reduceLT, Int.reduceBEq, Int.reduceBNe, beq_self_eq_true, bne_self_eq_false, decide_true, decide_false,  Int.reduceNeg, toNat_pred, toNat_succ, List.length_map, cnd_t, cnd_f, grd_tt, grd_u, grd_tf, grd_ft, grd_ff, g_skip, g_ops, g_seq, g_block, g_exit, g_ret, x_c, x_o, x_l, x_b, g_b, g_nil, r_all, o_nil, g_cond, o_guard, o_call, o_callv, lk, ef, o_mv, o_pick, o_bin, o_never, o_eqs, o_eqb, o_un, o_conv, o_load, o_loads, o_fld, o_idx, o_idxs, o_len, o_lens, o_ext, o_nilck, o_slc, o_slcs, o_build, o_minmax, o_mkfn, o_alloc, o_box, o_boxs, o_row, o_rowr, o_mk, o_asg, o_app, o_store, o_stores, hv, eqAV, ev, view_t, view_c, view_nil, view_fn, look_own, look_box, look_junk, look_val, look_nilsl, look_ro, look_roAt, look_agg, look_tup, look_clo, look_alias, look_ref, look_into, rowOf, cellsOf, argv, vbin, vun, bnd, elemOf, putParts, setAt, zav, ASt.rid, ASt.free, AV.kill, AV.isHome, AV.noLoan, AV.cellOK, Value.oneCell', put_at, mk_at, mk_nil, initSt, true_and, and_true, and_self, implies_true, List.map_cons, List.map_nil, List.forall_mem_cons, List.not_mem_nil, false_implies, List.length_cons, List.length_nil, List.getD_cons_zero, List.getD_cons_succ, List.getD_nil, List.drop_succ_cons, List.drop_zero, List.take_succ_cons, List.take_zero, List.set_cons_zero, List.set_cons_succ, List.all_cons, List.all_nil, Bool.and_true, Bool.true_and, Bool.not_true, Bool.not_false, reduceCtorEq, if_true, if_false, Bool.false_eq_true, ↓reduceIte, Nat.reduceEqDiff, Nat.reduceAdd, Nat.reduceSub, Nat.reduceMul, Nat.reduceLeDiff, Nat.reduceLT, ne_eq, not_false_eq_true, not_true_eq_false, Nat.one_ne_zero, Nat.zero_ne_one, r9_0, r9_1, r9_2, r9_3, r9_4, r9_5, r9_7, r9_8, r9_9, r9_10, r9_6, r9_11, p9, beq0_f h0, bne0_t h0]) | (exfalso; omega)
theorem keptclose_c : ∀ avs, HasArgs [.one (.row [.int .i64, .int .i64]), .one (.int .i64), .one (.int .i64)] avs → CallOK Try.prog 9 avs (.val (.bool true)) := by
  intro avs h
  obtain ⟨v0, r, rfl, h0, h⟩ := args_cons h
  obtain ⟨v1, r, rfl, h1, h⟩ := args_cons h
  obtain ⟨v2, r, rfl, h2, h⟩ := args_cons h
  obtain rfl := args_nil h
  obtain ⟨n0, rfl, hl0, hb0⟩ := has_row h0 all_anc
  obtain ⟨n1, rfl, hb1⟩ := has_int h1
  obtain ⟨n2, rfl, hb2⟩ := has_int h2
  exact keptclose_d n0 n1 n2 (by unfold maxLen at hl0; omega)

/-! ### The row -/
open Go.ChangeShapes Go.WideShapes Go.ChangeAt
set_option maxRecDepth 100000 in
theorem keptclose_lifted (os : Os) (started : os.Started) (H : Type) (enc : TypeId × Value → H) :
    ReturnsInHanded {} Try.checked os 9 .any (Rows.tickKeptsAreCloseSpec.pre6 enc Try.prog Try.f9 Rows.tickKeptsAreCloseRow.domain false) (Rows.tickKeptsAreCloseSpec.post enc Try.prog Try.f9 false true false false) := by
  refine returnsInHanded_of_change (C := Try.checked) own_knob started (by kernel_rfl) Try.func9
    (ChangeSpec.witness6 (enc := enc) (C := Try.checked) false ⟨#[], #[.slice none 0 0, .int .i64 0, .int .i64 0], []⟩ 8 (by kernel_rfl) (by kernel_rfl) (by kernel_rfl) (by kernel_rfl)) ?_
  intro W base args ds gs before hval hW _ _
  refine law_step rfl (by kernel_rfl) (fun ds h => ?_) ?_ hval hW ?_
  · match ds, h with | [a, b, c], _ => exact ⟨rfl, rfl, rfl⟩
  · rw [Try.params9]
    intro t ht
    simp only [List.mem_cons, List.not_mem_nil, or_false] at ht
    repeat' (first | (rcases ht with rfl | ht) | subst ht)
    all_goals exact ⟨by kernel_rfl, of_decide_eq_true (by kernel_rfl)⟩
  · rw [Try.params9]
    intro hin
    exact law_dm (ss := [.one (.row [.int .i64, .int .i64]), .one (.int .i64), .one (.int .i64)]) (by kernel_rfl) hin keptclose_c

theorem keptclose_holds : Rows.TickKeptsAreCloseSaid :=
  OpenClaim.holds_of_wide 9 Try.f9 rfl rfl rfl rfl rfl rfl rfl ⟨rfl, rfl, rfl, rfl, rfl⟩ rfl rfl rfl rfl rfl (by kernel_rfl) Try.func9 (by kernel_rfl)
    (of_decide_eq_true (by kernel_rfl)) (by unfold Func.isWrapper; first | (rw [if_pos (by decide +kernel)]; kernel_rfl) | (rw [if_neg (by decide +kernel)]; exact ⟨rfl, rfl⟩))
    (fun os started H enc _ => keptclose_lifted os started H enc)

end Go.Proofs.Ytlpbnpmmndcleaa
