/- SampleInterleavesAll: all samples of all tracks are written, those of one track in order. For every input; no condition. -/
import Derived.Test.YtkklgckmdnejfaaKInter
import Derived.Test.YtkklgckmdnejfaaRows
namespace Go.Proofs.Ytkklgckmdnejfaa
open Go.RowKit
set_option linter.unusedSimpArgs false

theorem goods_at {l : List Par} {most : Int} : ∀ {o : List Sl3} {nx : List Nat} {i : Nat} (h : i < o.length), goods l most nx o → good l most (advs nx (o.take i)) o[i]
  | [], _, _, h, _ => by simp at h
  | s :: r, nx, 0, _, hg => hg.1
  | s :: r, nx, i + 1, h, hg => goods_at (o := r) (by simpa using h) hg.2
theorem advs_take {nx : List Nat} {o : List Sl3} {i : Nat} (h : i < o.length) : advs nx (o.take (i + 1)) = adv (advs nx (o.take i)) o[i] := by
  rw [List.take_succ_eq_append_getElem h, advs_snoc]
theorem ilRun_len {l : List Par} {most : Int} : ∀ {f : Nat} {nx : List Nat} {o : List Sl3}, (ilRun l most f nx o).length ≤ o.length + f
  | 0, nx, o => Nat.le_refl _
  | f + 1, nx, o => by
    unfold ilRun
    split
    · omega
    · rename_i j _
      have h1 := ilRun_len (l := l) (most := most) (f := f) (nx := nx.set j (nx.getD j 0 + 1)) (o := putOut l most nx o j)
      have h2 : (putOut l most nx o j).length ≤ o.length + 1 := by
        rcases nil_or_lastI o with rfl | ⟨pre, s, rfl⟩
        · exact Nat.le_refl _
        · rw [putOut_snoc]; split <;> simp
      omega
/-! headend/headendlaw3.SampleInterleavesAll -/
def r3_0 : List POp := [⟨4, .asg (.c (.bool false)), none⟩]
def r3_1 : List POp := [⟨13, .mv (.t 0), none⟩,
  ⟨14, .mv (.t 1), none⟩,
  ⟨15, .call 15 [.t 13, .t 14], none⟩,
  ⟨12, .mv (.t 15), none⟩,
  ⟨16, .ext 0 (.t 12), none⟩,
  ⟨17, .ext 1 (.t 12), none⟩,
  ⟨5, .asg (.t 16), none⟩,
  ⟨6, .mv (.t 17), none⟩]
def r3_2 : List POp := [⟨18, .mv (.t 6), none⟩,
  ⟨19, .bin .neq (.t 18) (.c (.int .i64 0)), none⟩]
def r3_3 : List POp := [⟨20, .mv (.t 5), none⟩,
  ⟨21, .len (.t 20), none⟩,
  ⟨22, .bin .eql (.t 21) (.c (.int .i64 0)), none⟩,
  ⟨23, .mv (.t 22), none⟩,
  ⟨24, .call 16 [], some (23, true)⟩,
  ⟨25, .pick (.t 23) (.t 24) (.c (.bool false)), none⟩,
  ⟨4, .asg (.t 25), none⟩]
def r3_4 : List POp := [⟨26, .mv (.t 0), none⟩,
  ⟨27, .len (.t 26), none⟩,
  ⟨28, .mk 3 1 8 [.int .i64 0] (.t 27) (.t 27), none⟩,
  ⟨7, .asg (.t 28), none⟩]
def r3_5 : List POp := [⟨8, .asg (.c (.int .i64 0)), none⟩]
def r3_6 : List POp := [⟨29, .mv (.t 8), none⟩,
  ⟨30, .mv (.t 5), none⟩,
  ⟨31, .len (.t 30), none⟩,
  ⟨32, .bin .lss (.t 29) (.t 31), none⟩]
def r3_8 : List POp := [⟨35, .mv (.t 5), none⟩,
  ⟨36, .mv (.t 8), none⟩,
  ⟨37, .idx 3 (.t 35) (.t 36), none⟩,
  ⟨38, .loads 3 (.t 37), none⟩,
  ⟨9, .alloc [.int .i64 0, .int .i64 0, .int .i64 0], none⟩,
  ⟨0, .stores 3 (.t 9) (.t 38), none⟩]
def r3_9 : List POp := [⟨39, .fld 0 (.t 9), none⟩,
  ⟨40, .load (.t 39), none⟩,
  ⟨41, .bin .lss (.t 40) (.c (.int .i64 0)), none⟩,
  ⟨42, .mv (.t 41), none⟩,
  ⟨43, .fld 0 (.t 9), some (42, false)⟩,
  ⟨44, .load (.t 43), some (42, false)⟩,
  ⟨45, .mv (.t 0), some (42, false)⟩,
  ⟨46, .len (.t 45), some (42, false)⟩,
  ⟨47, .bin .geq (.t 44) (.t 46), some (42, false)⟩,
  ⟨48, .pick (.t 42) (.c (.bool true)) (.t 47), none⟩,
  ⟨49, .mv (.t 48), none⟩,
  ⟨50, .fld 2 (.t 9), some (49, false)⟩,
  ⟨51, .load (.t 50), some (49, false)⟩,
  ⟨52, .bin .lss (.t 51) (.c (.int .i64 1)), some (49, false)⟩,
  ⟨53, .pick (.t 49) (.c (.bool true)) (.t 52), none⟩,
  ⟨54, .mv (.t 53), none⟩,
  ⟨55, .fld 1 (.t 9), some (54, false)⟩,
  ⟨56, .load (.t 55), some (54, false)⟩,
  ⟨57, .mv (.t 7), some (54, false)⟩,
  ⟨58, .fld 0 (.t 9), some (54, false)⟩,
  ⟨59, .load (.t 58), some (54, false)⟩,
  ⟨60, .idx 1 (.t 57) (.t 59), some (54, false)⟩,
  ⟨61, .load (.t 60), some (54, false)⟩,
  ⟨62, .bin .neq (.t 56) (.t 61), some (54, false)⟩,
  ⟨63, .pick (.t 54) (.c (.bool true)) (.t 62), none⟩,
  ⟨64, .mv (.t 63), none⟩,
  ⟨65, .fld 1 (.t 9), some (64, false)⟩,
  ⟨66, .load (.t 65), some (64, false)⟩,
  ⟨67, .fld 2 (.t 9), some (64, false)⟩,
  ⟨68, .load (.t 67), some (64, false)⟩,
  ⟨69, .bin .add (.t 66) (.t 68), some (64, false)⟩,
  ⟨70, .mv (.t 0), some (64, false)⟩,
  ⟨71, .fld 0 (.t 9), some (64, false)⟩,
  ⟨72, .load (.t 71), some (64, false)⟩,
  ⟨73, .idx 2 (.t 70) (.t 72), some (64, false)⟩,
  ⟨74, .fld 1 (.t 73), some (64, false)⟩,
  ⟨75, .load (.t 74), some (64, false)⟩,
  ⟨76, .len (.t 75), some (64, false)⟩,
  ⟨77, .bin .gtr (.t 69) (.t 76), some (64, false)⟩,
  ⟨78, .pick (.t 64) (.c (.bool true)) (.t 77), none⟩]
def r3_10 : List POp := [⟨4, .asg (.c (.bool false)), none⟩]
def r3_11 : List POp := [⟨79, .mv (.t 7), none⟩,
  ⟨80, .fld 0 (.t 9), none⟩,
  ⟨81, .load (.t 80), none⟩,
  ⟨82, .idx 1 (.t 79) (.t 81), none⟩,
  ⟨83, .load (.t 82), none⟩,
  ⟨84, .fld 2 (.t 9), none⟩,
  ⟨85, .load (.t 84), none⟩,
  ⟨86, .bin .add (.t 83) (.t 85), none⟩,
  ⟨87, .idx 1 (.t 79) (.t 81), none⟩,
  ⟨0, .store (.t 87) (.t 86), none⟩]
def r3_12 : List POp := [⟨88, .mv (.t 0), none⟩,
  ⟨89, .fld 0 (.t 9), none⟩,
  ⟨90, .load (.t 89), none⟩,
  ⟨91, .idx 2 (.t 88) (.t 90), none⟩,
  ⟨92, .fld 1 (.t 91), none⟩,
  ⟨93, .load (.t 92), none⟩,
  ⟨10, .asg (.t 93), none⟩]
def r3_13 : List POp := [⟨94, .mv (.t 10), none⟩,
  ⟨95, .mv (.t 7), none⟩,
  ⟨96, .fld 0 (.t 9), none⟩,
  ⟨97, .load (.t 96), none⟩,
  ⟨98, .idx 1 (.t 95) (.t 97), none⟩,
  ⟨99, .load (.t 98), none⟩,
  ⟨100, .bin .sub (.t 99) (.c (.int .i64 1)), none⟩,
  ⟨101, .idx 5 (.t 94) (.t 100), none⟩,
  ⟨102, .fld 0 (.t 101), none⟩,
  ⟨103, .load (.t 102), none⟩,
  ⟨104, .mv (.t 10), none⟩,
  ⟨105, .fld 1 (.t 9), none⟩,
  ⟨106, .load (.t 105), none⟩,
  ⟨107, .idx 5 (.t 104) (.t 106), none⟩,
  ⟨108, .fld 0 (.t 107), none⟩,
  ⟨109, .load (.t 108), none⟩,
  ⟨110, .bin .sub (.t 103) (.t 109), none⟩,
  ⟨111, .mv (.t 1), none⟩,
  ⟨112, .bin .gtr (.t 110) (.t 111), none⟩]
def r3_14 : List POp := [⟨4, .asg (.c (.bool false)), none⟩]
def r3_7 : List POp := [⟨33, .mv (.t 8), none⟩,
  ⟨34, .bin .add (.t 33) (.c (.int .i64 1)), none⟩,
  ⟨8, .asg (.t 34), none⟩]
def r3_15 : List POp := [⟨11, .asg (.c (.int .i64 0)), none⟩]
def r3_16 : List POp := [⟨113, .mv (.t 11), none⟩,
  ⟨114, .mv (.t 0), none⟩,
  ⟨115, .len (.t 114), none⟩,
  ⟨116, .bin .lss (.t 113) (.t 115), none⟩]
def r3_18 : List POp := [⟨119, .mv (.t 7), none⟩,
  ⟨120, .mv (.t 11), none⟩,
  ⟨121, .idx 1 (.t 119) (.t 120), none⟩,
  ⟨122, .load (.t 121), none⟩,
  ⟨123, .mv (.t 0), none⟩,
  ⟨124, .mv (.t 11), none⟩,
  ⟨125, .idx 2 (.t 123) (.t 124), none⟩,
  ⟨126, .fld 1 (.t 125), none⟩,
  ⟨127, .load (.t 126), none⟩,
  ⟨128, .len (.t 127), none⟩,
  ⟨129, .bin .neq (.t 122) (.t 128), none⟩]
def r3_19 : List POp := [⟨4, .asg (.c (.bool false)), none⟩]
def r3_17 : List POp := [⟨117, .mv (.t 11), none⟩,
  ⟨118, .bin .add (.t 117) (.c (.int .i64 1)), none⟩,
  ⟨11, .asg (.t 118), none⟩]
def r3_20 : List POp := [⟨130, .call 16 [], none⟩,
  ⟨4, .asg (.t 130), none⟩]
def l3_1 : PCode := .seq (.seq (.ops r3_16) (.cond (.t 116) (.skip) (.exit 2))) (.seq (.block 3 (.seq (.ops r3_18) (.cond (.t 129) (.seq (.ops r3_19) (.ret)) (.skip)))) (.ops r3_17))
def l3_0 : PCode := .seq (.seq (.ops r3_6) (.cond (.t 32) (.skip) (.exit 0))) (.seq (.block 1 (.seq (.ops r3_8) (.seq (.seq (.ops r3_9) (.cond (.t 78) (.seq (.ops r3_10) (.ret)) (.skip))) (.seq (.ops r3_11) (.seq (.ops r3_12) (.seq (.ops r3_13) (.cond (.t 112) (.seq (.ops r3_14) (.ret)) (.skip)))))))) (.ops r3_7))
def p3 : PCode := .seq (.ops r3_0) (.seq (.ops r3_1) (.seq (.seq (.ops r3_2) (.cond (.t 19) (.seq (.ops r3_3) (.ret)) (.skip))) (.seq (.ops r3_4) (.seq (.seq (.ops r3_5) (.block 0 (.loop l3_0))) (.seq (.seq (.ops r3_15) (.block 2 (.loop l3_1))) (.seq (.ops r3_20) (.ret)))))))
theorem ok3 : okFunc Try.prog 3 [.t 4] 2 p3 = true := by kernel_rfl
set_option maxRecDepth 20000 in
set_option maxHeartbeats 1000000 in
theorem interall_d (l : List Par) (most : Int) : CallOK Try.prog 3 [.ro (l.map Par.av), .val (.int .i64 most)] (.val (.bool true)) := by
  refine call_of mixed ok3 rfl ?_
  have k1 := interF_c l most
  by_cases h0 : (interF l most).2 = 0
  case neg =>
    have hF : (interF l most).1 = [] := by
      unfold interF at h0 ⊢
      repeat' split
      all_goals simp_all
    rw [hF] at k1
    have b0 := beq0_f h0
    have b1 := bne0_t h0
    generalize (interF l most).2 = e at *
    repeat' first | (with_reducible refine condD (fun h => ?_) (fun h => ?_)) | (with_reducible refine condE (fun h => ?_) (fun h => ?_)) | (with_reducible refine condN (fun h => ?_) (fun h => ?_)) | (with_reducible refine condI (fun h => ?_) (fun h => ?_)) | (with_reducible refine condS (fun h => ?_) (fun h => ?_)) | (with_reducible refine guardD (by with_unfolding_all rfl) (fun h => ?_) (fun h => ?_)) | (with_reducible refine guardE (by with_unfolding_all rfl) (fun h => ?_) (fun h => ?_)) | (with_reducible refine guardN (by with_unfolding_all rfl) (fun h => ?_) (fun h => ?_)) | (with_reducible refine guardI (by with_unfolding_all rfl) (fun h => ?_) (fun h => ?_)) | (with_reducible refine guardS (by with_unfolding_all rfl) (fun h => ?_) (fun h => ?_)) | ((refine callG k1 ?_)) | ((refine callG awake3_c ?_)) | (with_reducible refine And.intro ?_ ?_; omega) | (simp only [done_eq, done_eq', fin_val, fin_tup, fin_agg, fin_ro, res_one, res_more, rv_t, rv_c, rv_l, AV.tup.injEq, AV.agg.injEq, AV.ro.injEq, List.cons.injEq, int_eq, bool_eq, Int.toNat_natCast, Int.reduceToNat, Int.toNat_zero, Int.toNat_one, Int.reduceLE, Int.reduceLT, Int.reduceBEq, Int.reduceBNe, beq_self_eq_true, bne_self_eq_false, decide_true, decide_false,  Int.reduceNeg, toNat_pred, toNat_succ, List.length_map, cnd_t, cnd_f, grd_tt, grd_u, grd_tf, grd_ft, grd_ff, g_skip, g_ops, g_seq, g_block, g_exit, g_ret, x_c, x_o, x_l, x_b, g_b, g_nil, r_all, o_nil, g_cond, o_guard, o_call, o_callm, o_callx, o_callv, lk, ef, o_mv, o_pick, o_bin, o_never, o_eqs, o_eqb, o_un, o_conv, o_load, o_loadr, o_idxr, o_loads, o_fld, o_idx, o_idxs, o_len, o_lens, o_ext, o_nilck, o_slc, o_slcs, o_build, o_minmax, o_mkfn, o_alloc, o_box, o_boxs, o_row, o_rowr, o_mk, o_asg, o_app, o_store, o_stores, o_eqnil, hv, eqAV, ev, view_t, view_c, view_nil, view_fn, look_own, look_box, look_junk, look_val, look_nilsl, look_ro, look_roAt, look_agg, look_tup, look_clo, look_alias, look_ref, look_into, rowOf, cellsOf, argv, vbin, vun, bnd, elemOf, putParts, setAt, zav, ASt.rid, ASt.free, AV.kill, AV.isHome, AV.noLoan, AV.cellOK, Value.oneCell', put_at, mk_at, mk_nil, initSt, true_and, and_true, and_self, implies_true, List.map_cons, List.map_nil, List.forall_mem_cons, List.not_mem_nil, false_implies, List.length_cons, List.length_nil, List.getD_cons_zero, List.getD_cons_succ, List.getD_nil, List.drop_succ_cons, List.drop_zero, List.take_succ_cons, List.take_zero, List.set_cons_zero, List.set_cons_succ, List.all_cons, List.all_nil, Bool.and_true, Bool.true_and, Bool.not_true, Bool.not_false, reduceCtorEq, if_true, if_false, Bool.false_eq_true, ↓reduceIte, Nat.reduceEqDiff, Nat.reduceAdd, Nat.reduceSub, Nat.reduceMul, Nat.reduceLeDiff, Nat.reduceLT, ne_eq, not_false_eq_true, not_true_eq_false, Nat.one_ne_zero, Nat.zero_ne_one, r3_0, r3_1, r3_2, r3_3, r3_4, r3_5, r3_6, r3_8, r3_9, r3_10, r3_11, r3_12, r3_13, r3_14, r3_7, r3_15, r3_16, r3_18, r3_19, r3_17, r3_20, p3, b0, b1]) | (exfalso; omega)
  have hfac : l.length ≤ 8 ∧ parsF l = 0 ∧ outB most 0 1000000000000 = false ∧ (interF l most).1 = ilRun l most (left l (zeros l)) (zeros l) [] := by
    unfold interF at h0 ⊢
    split at h0
    · cases h0
    · rename_i h1
      split at h0
      · rename_i h2; exact absurd h0 h2
      · rename_i h2
        split at h0
        · cases h0
        · rename_i h3
          rw [if_neg h1, if_neg h2, if_neg h3]
          exact ⟨by omega, by simpa using h2, by simpa using h3, rfl⟩
  obtain ⟨hl8, hp, ho, hE⟩ := hfac
  have hmb := outB_f ho
  have hpa := parsF_0 hp
  have hI := IInv.start (l := l) (most := most) hl8 fun p hp => (par_facts (hpa p hp)).1
  obtain ⟨hG, hend⟩ := hI.run hmb.1
  have hsz := hI.sz
  have hRl := ilRun_len (l := l) (most := most) (f := left l (zeros l)) (nx := zeros l) (o := [])
  rw [h0, hE] at k1
  clear hE h0 ho
  generalize ilRun l most (left l (zeros l)) (zeros l) [] = A at *
  have hAl : A.length ≤ 40000 := by simp at hsz hRl; omega
  clear hI hsz hRl
  repeat' first | (with_reducible refine condD (fun h => ?_) (fun h => ?_)) | (with_reducible refine condE (fun h => ?_) (fun h => ?_)) | (with_reducible refine condN (fun h => ?_) (fun h => ?_)) | (with_reducible refine condI (fun h => ?_) (fun h => ?_)) | (with_reducible refine condS (fun h => ?_) (fun h => ?_)) | (with_reducible refine guardD (by with_unfolding_all rfl) (fun h => ?_) (fun h => ?_)) | (with_reducible refine guardE (by with_unfolding_all rfl) (fun h => ?_) (fun h => ?_)) | (with_reducible refine guardN (by with_unfolding_all rfl) (fun h => ?_) (fun h => ?_)) | (with_reducible refine guardI (by with_unfolding_all rfl) (fun h => ?_) (fun h => ?_)) | (with_reducible refine guardS (by with_unfolding_all rfl) (fun h => ?_) (fun h => ?_)) | ((refine callG k1 ?_)) | (with_reducible refine And.intro ?_ ?_; omega) | (simp only [done_eq, done_eq', fin_val, fin_tup, fin_agg, fin_ro, res_one, res_more, rv_t, rv_c, rv_l, AV.tup.injEq, AV.agg.injEq, AV.ro.injEq, List.cons.injEq, int_eq, bool_eq, Int.toNat_natCast, Int.reduceToNat, Int.toNat_zero, Int.toNat_one, Int.reduceLE, Int.reduceLT, Int.reduceBEq, Int.reduceBNe, beq_self_eq_true, bne_self_eq_false, decide_true, decide_false,  Int.reduceNeg, toNat_pred, toNat_succ, List.length_map, cnd_t, cnd_f, grd_tt, grd_u, grd_tf, grd_ft, grd_ff, g_skip, g_ops, g_seq, g_block, g_exit, g_ret, x_c, x_o, x_l, x_b, g_b, g_nil, r_all, o_nil, g_cond, o_guard, o_call, o_callm, o_callx, o_callv, lk, ef, o_mv, o_pick, o_bin, o_never, o_eqs, o_eqb, o_un, o_conv, o_load, o_loadr, o_idxr, o_loads, o_fld, o_idx, o_idxs, o_len, o_lens, o_ext, o_nilck, o_slc, o_slcs, o_build, o_minmax, o_mkfn, o_alloc, o_box, o_boxs, o_row, o_rowr, o_mk, o_asg, o_app, o_store, o_stores, o_eqnil, hv, eqAV, ev, view_t, view_c, view_nil, view_fn, look_own, look_box, look_junk, look_val, look_nilsl, look_ro, look_roAt, look_agg, look_tup, look_clo, look_alias, look_ref, look_into, rowOf, cellsOf, argv, vbin, vun, bnd, elemOf, putParts, setAt, zav, ASt.rid, ASt.free, AV.kill, AV.isHome, AV.noLoan, AV.cellOK, Value.oneCell', put_at, mk_at, mk_nil, initSt, true_and, and_true, and_self, implies_true, List.map_cons, List.map_nil, List.forall_mem_cons, List.not_mem_nil, false_implies, List.length_cons, List.length_nil, List.getD_cons_zero, List.getD_cons_succ, List.getD_nil, List.drop_succ_cons, List.drop_zero, List.take_succ_cons, List.take_zero, List.set_cons_zero, List.set_cons_succ, List.all_cons, List.all_nil, Bool.and_true, Bool.true_and, Bool.not_true, Bool.not_false, reduceCtorEq, if_true, if_false, Bool.false_eq_true, ↓reduceIte, Nat.reduceEqDiff, Nat.reduceAdd, Nat.reduceSub, Nat.reduceMul, Nat.reduceLeDiff, Nat.reduceLT, ne_eq, not_false_eq_true, not_true_eq_false, Nat.one_ne_zero, Nat.zero_ne_one, r3_0, r3_1, r3_2, r3_3, r3_4, r3_5, r3_6, r3_8, r3_9, r3_10, r3_11, r3_12, r3_13, r3_14, r3_7, r3_15, r3_16, r3_18, r3_19, r3_17, r3_20, p3]) | (exfalso; omega)
  refine loopS (fun i : Nat => mk [(0, .ro (l.map Par.av)), (1, .val (.int .i64 most)), (5, .ro (A.map Sl3.av)), (7, .own 3 1 ((advs (zeros l) (A.take i)).map oneN)), (8, .val (.int .i64 i))]) (fun i => i ≤ A.length) (fun i => A.length - i) 0 (weak_mk ?_) (Nat.zero_le _) ?_
  · simp only [wk_cons, wk_nil, wk1, vint_eq, vbool_eq, AV.val.injEq, done_eq, done_eq', fin_val, fin_tup, fin_agg, fin_ro, res_one, res_more, rv_t, rv_c, rv_l, AV.tup.injEq, AV.agg.injEq, AV.ro.injEq, List.cons.injEq, int_eq, bool_eq, Int.toNat_natCast, Int.reduceToNat, Int.toNat_zero, Int.toNat_one, Int.reduceLE, Int.reduceLT, Int.reduceBEq, Int.reduceBNe, beq_self_eq_true, bne_self_eq_false, decide_true, decide_false,  Int.reduceNeg, toNat_pred, toNat_succ, List.length_map, cnd_t, cnd_f, grd_tt, grd_u, grd_tf, grd_ft, grd_ff, g_skip, g_ops, g_seq, g_block, g_exit, g_ret, x_c, x_o, x_l, x_b, g_b, g_nil, r_all, o_nil, g_cond, o_guard, o_call, o_callm, o_callx, o_callv, lk, ef, o_mv, o_pick, o_bin, o_never, o_eqs, o_eqb, o_un, o_conv, o_load, o_loadr, o_idxr, o_loads, o_fld, o_idx, o_idxs, o_len, o_lens, o_ext, o_nilck, o_slc, o_slcs, o_build, o_minmax, o_mkfn, o_alloc, o_box, o_boxs, o_row, o_rowr, o_mk, o_asg, o_app, o_store, o_stores, o_eqnil, hv, eqAV, ev, view_t, view_c, view_nil, view_fn, look_own, look_box, look_junk, look_val, look_nilsl, look_ro, look_roAt, look_agg, look_tup, look_clo, look_alias, look_ref, look_into, rowOf, cellsOf, argv, vbin, vun, bnd, elemOf, putParts, setAt, zav, ASt.rid, ASt.free, AV.kill, AV.isHome, AV.noLoan, AV.cellOK, Value.oneCell', put_at, mk_at, mk_nil, initSt, true_and, and_true, and_self, implies_true, List.map_cons, List.map_nil, List.forall_mem_cons, List.not_mem_nil, false_implies, List.length_cons, List.length_nil, List.getD_cons_zero, List.getD_cons_succ, List.getD_nil, List.drop_succ_cons, List.drop_zero, List.take_succ_cons, List.take_zero, List.set_cons_zero, List.set_cons_succ, List.all_cons, List.all_nil, Bool.and_true, Bool.true_and, Bool.not_true, Bool.not_false, reduceCtorEq, if_true, if_false, Bool.false_eq_true, ↓reduceIte, Nat.reduceEqDiff, Nat.reduceAdd, Nat.reduceSub, Nat.reduceMul, Nat.reduceLeDiff, Nat.reduceLT, ne_eq, not_false_eq_true, not_true_eq_false, Nat.one_ne_zero, Nat.zero_ne_one]
    simp [advs, zeros, oneN]
  rintro J hJ i hi
  have hnl : (advs (zeros l) (A.take i)).length = l.length := by rw [advs_len]; simp [zeros]
  simp only [done_eq, done_eq', fin_val, fin_tup, fin_agg, fin_ro, res_one, res_more, rv_t, rv_c, rv_l, AV.tup.injEq, AV.agg.injEq, AV.ro.injEq, List.cons.injEq, int_eq, bool_eq, Int.toNat_natCast, Int.reduceToNat, Int.toNat_zero, Int.toNat_one, Int.reduceLE, Int.reduceLT, Int.reduceBEq, Int.reduceBNe, beq_self_eq_true, bne_self_eq_false, decide_true, decide_false,  Int.reduceNeg, toNat_pred, toNat_succ, List.length_map, cnd_t, cnd_f, grd_tt, grd_u, grd_tf, grd_ft, grd_ff, g_skip, g_ops, g_seq, g_block, g_exit, g_ret, x_c, x_o, x_l, x_b, g_b, g_nil, r_all, o_nil, g_cond, o_guard, o_call, o_callm, o_callx, o_callv, lk, ef, o_mv, o_pick, o_bin, o_never, o_eqs, o_eqb, o_un, o_conv, o_load, o_loadr, o_idxr, o_loads, o_fld, o_idx, o_idxs, o_len, o_lens, o_ext, o_nilck, o_slc, o_slcs, o_build, o_minmax, o_mkfn, o_alloc, o_box, o_boxs, o_row, o_rowr, o_mk, o_asg, o_app, o_store, o_stores, o_eqnil, hv, eqAV, ev, view_t, view_c, view_nil, view_fn, look_own, look_box, look_junk, look_val, look_nilsl, look_ro, look_roAt, look_agg, look_tup, look_clo, look_alias, look_ref, look_into, rowOf, cellsOf, argv, vbin, vun, bnd, elemOf, putParts, setAt, zav, ASt.rid, ASt.free, AV.kill, AV.isHome, AV.noLoan, AV.cellOK, Value.oneCell', put_at, mk_at, mk_nil, initSt, true_and, and_true, and_self, implies_true, List.map_cons, List.map_nil, List.forall_mem_cons, List.not_mem_nil, false_implies, List.length_cons, List.length_nil, List.getD_cons_zero, List.getD_cons_succ, List.getD_nil, List.drop_succ_cons, List.drop_zero, List.take_succ_cons, List.take_zero, List.set_cons_zero, List.set_cons_succ, List.all_cons, List.all_nil, Bool.and_true, Bool.true_and, Bool.not_true, Bool.not_false, reduceCtorEq, if_true, if_false, Bool.false_eq_true, ↓reduceIte, Nat.reduceEqDiff, Nat.reduceAdd, Nat.reduceSub, Nat.reduceMul, Nat.reduceLeDiff, Nat.reduceLT, ne_eq, not_false_eq_true, not_true_eq_false, Nat.one_ne_zero, Nat.zero_ne_one, r3_0, r3_1, r3_2, r3_3, r3_4, r3_5, r3_6, r3_8, r3_9, r3_10, r3_11, r3_12, r3_13, r3_14, r3_7, r3_15, r3_16, r3_18, r3_19, r3_17, r3_20, p3, l3_0]
  refine condD (fun h => ?_) (fun h => ?_)
  · have hlt : i < A.length := by omega
    have hw := i_add1 i (by omega)
    have gA := getD_map (f := Sl3.av) (d := []) hlt
    have hg := goods_at hlt hG
    have hnx := advs_take (nx := zeros l) hlt
    generalize advs (zeros l) (A.take i) = nx at *
    obtain ⟨s, hAi⟩ : ∃ s, A[i] = s := ⟨_, rfl⟩
    obtain ⟨st, sf, sn⟩ := s
    rw [hAi] at gA hg hnx
    obtain ⟨a1, a2, a3, a4, a5⟩ := hg
    simp only at a1 a2 a3 a4 a5
    have hln : st < nx.length := by omega
    have gL := getD_map (f := Par.av) (d := []) a1
    have gN := getD_map (f := oneN) (d := []) hln
    rw [getD_in hln] at a3
    rw [← a3] at gN
    rw [trk_in a1] at a4 a5
    have hq1 : sf < l[st].smps.length := by omega
    have hq2 : sf + sn - 1 < l[st].smps.length := by omega
    rw [tm_in hq1, tm_in hq2] at a5
    have gS1 := getD_map (f := Smp.av) (d := []) hq1
    have gS2 := getD_map (f := Smp.av) (d := []) hq2
    have f1 := par_facts (hpa l[st] (List.getElem_mem a1))
    have b1 := badSmp_bd (f1.2.1 _ (List.getElem_mem hq1))
    have b2 := badSmp_bd (f1.2.1 _ (List.getElem_mem hq2))
    have hf5 := f1.1
    have w1 := i_add sf sn (by omega)
    have w2 := i_sub1 (sf + sn) (by omega) (by omega)
    have w3 : IntKind.i64.wrap (l[st].smps[sf + sn - 1].time - l[st].smps[sf].time) = l[st].smps[sf + sn - 1].time - l[st].smps[sf].time := wrap_in (by omega) (by omega)
    have hset : (nx.map oneN).set st [.val (.int .i64 ((sf + sn : Nat) : Int))] = (nx.set st (sf + sn)).map oneN := by rw [List.map_set]; rfl
    have hnx2 : advs (zeros l) (A.take (i + 1)) = nx.set st (sf + sn) := by
      rw [hnx]; unfold adv; simp only; rw [getD_in hln, ← a3]
    have hln2 : st < (nx.set st (sf + sn)).length := by simp; exact hln
    have gN2 := getD_map (f := oneN) (d := []) hln2
    rw [List.getElem_set_self] at gN2
    have hsl : (nx.set st (sf + sn)).length = l.length := by simp [hnl]
    simp only [Par.av] at gL
    simp only [oneN] at gN gN2
    simp only [Smp.av] at gS1 gS2
    simp only [Sl3.av] at gA
    repeat' first | (with_reducible refine condD (fun h => ?_) (fun h => ?_)) | (with_reducible refine condE (fun h => ?_) (fun h => ?_)) | (with_reducible refine condN (fun h => ?_) (fun h => ?_)) | (with_reducible refine condI (fun h => ?_) (fun h => ?_)) | (with_reducible refine condS (fun h => ?_) (fun h => ?_)) | (with_reducible refine guardD (by with_unfolding_all rfl) (fun h => ?_) (fun h => ?_)) | (with_reducible refine guardE (by with_unfolding_all rfl) (fun h => ?_) (fun h => ?_)) | (with_reducible refine guardN (by with_unfolding_all rfl) (fun h => ?_) (fun h => ?_)) | (with_reducible refine guardI (by with_unfolding_all rfl) (fun h => ?_) (fun h => ?_)) | (with_reducible refine guardS (by with_unfolding_all rfl) (fun h => ?_) (fun h => ?_)) | (with_reducible refine And.intro ?_ ?_; omega) | (simp only [done_eq, done_eq', fin_val, fin_tup, fin_agg, fin_ro, res_one, res_more, rv_t, rv_c, rv_l, AV.tup.injEq, AV.agg.injEq, AV.ro.injEq, List.cons.injEq, int_eq, bool_eq, Int.toNat_natCast, Int.reduceToNat, Int.toNat_zero, Int.toNat_one, Int.reduceLE, Int.reduceLT, Int.reduceBEq, Int.reduceBNe, beq_self_eq_true, bne_self_eq_false, decide_true, decide_false,  Int.reduceNeg, toNat_pred, toNat_succ, List.length_map, cnd_t, cnd_f, grd_tt, grd_u, grd_tf, grd_ft, grd_ff, g_skip, g_ops, g_seq, g_block, g_exit, g_ret, x_c, x_o, x_l, x_b, g_b, g_nil, r_all, o_nil, g_cond, o_guard, o_call, o_callm, o_callx, o_callv, lk, ef, o_mv, o_pick, o_bin, o_never, o_eqs, o_eqb, o_un, o_conv, o_load, o_loadr, o_idxr, o_loads, o_fld, o_idx, o_idxs, o_len, o_lens, o_ext, o_nilck, o_slc, o_slcs, o_build, o_minmax, o_mkfn, o_alloc, o_box, o_boxs, o_row, o_rowr, o_mk, o_asg, o_app, o_store, o_stores, o_eqnil, hv, eqAV, ev, view_t, view_c, view_nil, view_fn, look_own, look_box, look_junk, look_val, look_nilsl, look_ro, look_roAt, look_agg, look_tup, look_clo, look_alias, look_ref, look_into, rowOf, cellsOf, argv, vbin, vun, bnd, elemOf, putParts, setAt, zav, ASt.rid, ASt.free, AV.kill, AV.isHome, AV.noLoan, AV.cellOK, Value.oneCell', put_at, mk_at, mk_nil, initSt, true_and, and_true, and_self, implies_true, List.map_cons, List.map_nil, List.forall_mem_cons, List.not_mem_nil, false_implies, List.length_cons, List.length_nil, List.getD_cons_zero, List.getD_cons_succ, List.getD_nil, List.drop_succ_cons, List.drop_zero, List.take_succ_cons, List.take_zero, List.set_cons_zero, List.set_cons_succ, List.all_cons, List.all_nil, Bool.and_true, Bool.true_and, Bool.not_true, Bool.not_false, reduceCtorEq, if_true, if_false, Bool.false_eq_true, ↓reduceIte, Nat.reduceEqDiff, Nat.reduceAdd, Nat.reduceSub, Nat.reduceMul, Nat.reduceLeDiff, Nat.reduceLT, ne_eq, not_false_eq_true, not_true_eq_false, Nat.one_ne_zero, Nat.zero_ne_one, r3_0, r3_1, r3_2, r3_3, r3_4, r3_5, r3_6, r3_8, r3_9, r3_10, r3_11, r3_12, r3_13, r3_14, r3_7, r3_15, r3_16, r3_18, r3_19, r3_17, r3_20, p3, l3_0, gA, gL, gN, gN2, gS1, gS2, w1, w2, w3, hset, hnl, hsl, List.length_map]) | (exfalso; omega)
    all_goals exact again hJ (i + 1) (weak_mk (by simp only [wk_cons, wk_nil, wk1, vint_eq, vbool_eq, AV.val.injEq, done_eq, done_eq', fin_val, fin_tup, fin_agg, fin_ro, res_one, res_more, rv_t, rv_c, rv_l, AV.tup.injEq, AV.agg.injEq, AV.ro.injEq, List.cons.injEq, int_eq, bool_eq, Int.toNat_natCast, Int.reduceToNat, Int.toNat_zero, Int.toNat_one, Int.reduceLE, Int.reduceLT, Int.reduceBEq, Int.reduceBNe, beq_self_eq_true, bne_self_eq_false, decide_true, decide_false,  Int.reduceNeg, toNat_pred, toNat_succ, List.length_map, cnd_t, cnd_f, grd_tt, grd_u, grd_tf, grd_ft, grd_ff, g_skip, g_ops, g_seq, g_block, g_exit, g_ret, x_c, x_o, x_l, x_b, g_b, g_nil, r_all, o_nil, g_cond, o_guard, o_call, o_callm, o_callx, o_callv, lk, ef, o_mv, o_pick, o_bin, o_never, o_eqs, o_eqb, o_un, o_conv, o_load, o_loadr, o_idxr, o_loads, o_fld, o_idx, o_idxs, o_len, o_lens, o_ext, o_nilck, o_slc, o_slcs, o_build, o_minmax, o_mkfn, o_alloc, o_box, o_boxs, o_row, o_rowr, o_mk, o_asg, o_app, o_store, o_stores, o_eqnil, hv, eqAV, ev, view_t, view_c, view_nil, view_fn, look_own, look_box, look_junk, look_val, look_nilsl, look_ro, look_roAt, look_agg, look_tup, look_clo, look_alias, look_ref, look_into, rowOf, cellsOf, argv, vbin, vun, bnd, elemOf, putParts, setAt, zav, ASt.rid, ASt.free, AV.kill, AV.isHome, AV.noLoan, AV.cellOK, Value.oneCell', put_at, mk_at, mk_nil, initSt, true_and, and_true, and_self, implies_true, List.map_cons, List.map_nil, List.forall_mem_cons, List.not_mem_nil, false_implies, List.length_cons, List.length_nil, List.getD_cons_zero, List.getD_cons_succ, List.getD_nil, List.drop_succ_cons, List.drop_zero, List.take_succ_cons, List.take_zero, List.set_cons_zero, List.set_cons_succ, List.all_cons, List.all_nil, Bool.and_true, Bool.true_and, Bool.not_true, Bool.not_false, reduceCtorEq, if_true, if_false, Bool.false_eq_true, ↓reduceIte, Nat.reduceEqDiff, Nat.reduceAdd, Nat.reduceSub, Nat.reduceMul, Nat.reduceLeDiff, Nat.reduceLT, ne_eq, not_false_eq_true, not_true_eq_false, Nat.one_ne_zero, Nat.zero_ne_one]; rw [hnx2]; simp [hw])) (by omega) (by omega)
  have hie : i = A.length := by omega
  subst hie
  rw [List.take_length] at hnl ⊢
  generalize advs (zeros l) A = nx at *
  clear hJ
  repeat' first | (with_reducible refine condD (fun h => ?_) (fun h => ?_)) | (with_reducible refine condE (fun h => ?_) (fun h => ?_)) | (with_reducible refine condN (fun h => ?_) (fun h => ?_)) | (with_reducible refine condI (fun h => ?_) (fun h => ?_)) | (with_reducible refine condS (fun h => ?_) (fun h => ?_)) | (with_reducible refine guardD (by with_unfolding_all rfl) (fun h => ?_) (fun h => ?_)) | (with_reducible refine guardE (by with_unfolding_all rfl) (fun h => ?_) (fun h => ?_)) | (with_reducible refine guardN (by with_unfolding_all rfl) (fun h => ?_) (fun h => ?_)) | (with_reducible refine guardI (by with_unfolding_all rfl) (fun h => ?_) (fun h => ?_)) | (with_reducible refine guardS (by with_unfolding_all rfl) (fun h => ?_) (fun h => ?_)) | (with_reducible refine And.intro ?_ ?_; omega) | (simp only [done_eq, done_eq', fin_val, fin_tup, fin_agg, fin_ro, res_one, res_more, rv_t, rv_c, rv_l, AV.tup.injEq, AV.agg.injEq, AV.ro.injEq, List.cons.injEq, int_eq, bool_eq, Int.toNat_natCast, Int.reduceToNat, Int.toNat_zero, Int.toNat_one, Int.reduceLE, Int.reduceLT, Int.reduceBEq, Int.reduceBNe, beq_self_eq_true, bne_self_eq_false, decide_true, decide_false,  Int.reduceNeg, toNat_pred, toNat_succ, List.length_map, cnd_t, cnd_f, grd_tt, grd_u, grd_tf, grd_ft, grd_ff, g_skip, g_ops, g_seq, g_block, g_exit, g_ret, x_c, x_o, x_l, x_b, g_b, g_nil, r_all, o_nil, g_cond, o_guard, o_call, o_callm, o_callx, o_callv, lk, ef, o_mv, o_pick, o_bin, o_never, o_eqs, o_eqb, o_un, o_conv, o_load, o_loadr, o_idxr, o_loads, o_fld, o_idx, o_idxs, o_len, o_lens, o_ext, o_nilck, o_slc, o_slcs, o_build, o_minmax, o_mkfn, o_alloc, o_box, o_boxs, o_row, o_rowr, o_mk, o_asg, o_app, o_store, o_stores, o_eqnil, hv, eqAV, ev, view_t, view_c, view_nil, view_fn, look_own, look_box, look_junk, look_val, look_nilsl, look_ro, look_roAt, look_agg, look_tup, look_clo, look_alias, look_ref, look_into, rowOf, cellsOf, argv, vbin, vun, bnd, elemOf, putParts, setAt, zav, ASt.rid, ASt.free, AV.kill, AV.isHome, AV.noLoan, AV.cellOK, Value.oneCell', put_at, mk_at, mk_nil, initSt, true_and, and_true, and_self, implies_true, List.map_cons, List.map_nil, List.forall_mem_cons, List.not_mem_nil, false_implies, List.length_cons, List.length_nil, List.getD_cons_zero, List.getD_cons_succ, List.getD_nil, List.drop_succ_cons, List.drop_zero, List.take_succ_cons, List.take_zero, List.set_cons_zero, List.set_cons_succ, List.all_cons, List.all_nil, Bool.and_true, Bool.true_and, Bool.not_true, Bool.not_false, reduceCtorEq, if_true, if_false, Bool.false_eq_true, ↓reduceIte, Nat.reduceEqDiff, Nat.reduceAdd, Nat.reduceSub, Nat.reduceMul, Nat.reduceLeDiff, Nat.reduceLT, ne_eq, not_false_eq_true, not_true_eq_false, Nat.one_ne_zero, Nat.zero_ne_one, r3_0, r3_1, r3_2, r3_3, r3_4, r3_5, r3_6, r3_8, r3_9, r3_10, r3_11, r3_12, r3_13, r3_14, r3_7, r3_15, r3_16, r3_18, r3_19, r3_17, r3_20, p3, l3_0]) | (exfalso; omega)
  refine loopS (fun i : Nat => mk [(0, .ro (l.map Par.av)), (7, .own 3 1 (nx.map oneN)), (11, .val (.int .i64 i))]) (fun i => i ≤ l.length) (fun i => l.length - i) 0 (weak_mk ?_) (Nat.zero_le _) ?_
  · simp only [wk_cons, wk_nil, wk1, vint_eq, vbool_eq, AV.val.injEq, done_eq, done_eq', fin_val, fin_tup, fin_agg, fin_ro, res_one, res_more, rv_t, rv_c, rv_l, AV.tup.injEq, AV.agg.injEq, AV.ro.injEq, List.cons.injEq, int_eq, bool_eq, Int.toNat_natCast, Int.reduceToNat, Int.toNat_zero, Int.toNat_one, Int.reduceLE, Int.reduceLT, Int.reduceBEq, Int.reduceBNe, beq_self_eq_true, bne_self_eq_false, decide_true, decide_false,  Int.reduceNeg, toNat_pred, toNat_succ, List.length_map, cnd_t, cnd_f, grd_tt, grd_u, grd_tf, grd_ft, grd_ff, g_skip, g_ops, g_seq, g_block, g_exit, g_ret, x_c, x_o, x_l, x_b, g_b, g_nil, r_all, o_nil, g_cond, o_guard, o_call, o_callm, o_callx, o_callv, lk, ef, o_mv, o_pick, o_bin, o_never, o_eqs, o_eqb, o_un, o_conv, o_load, o_loadr, o_idxr, o_loads, o_fld, o_idx, o_idxs, o_len, o_lens, o_ext, o_nilck, o_slc, o_slcs, o_build, o_minmax, o_mkfn, o_alloc, o_box, o_boxs, o_row, o_rowr, o_mk, o_asg, o_app, o_store, o_stores, o_eqnil, hv, eqAV, ev, view_t, view_c, view_nil, view_fn, look_own, look_box, look_junk, look_val, look_nilsl, look_ro, look_roAt, look_agg, look_tup, look_clo, look_alias, look_ref, look_into, rowOf, cellsOf, argv, vbin, vun, bnd, elemOf, putParts, setAt, zav, ASt.rid, ASt.free, AV.kill, AV.isHome, AV.noLoan, AV.cellOK, Value.oneCell', put_at, mk_at, mk_nil, initSt, true_and, and_true, and_self, implies_true, List.map_cons, List.map_nil, List.forall_mem_cons, List.not_mem_nil, false_implies, List.length_cons, List.length_nil, List.getD_cons_zero, List.getD_cons_succ, List.getD_nil, List.drop_succ_cons, List.drop_zero, List.take_succ_cons, List.take_zero, List.set_cons_zero, List.set_cons_succ, List.all_cons, List.all_nil, Bool.and_true, Bool.true_and, Bool.not_true, Bool.not_false, reduceCtorEq, if_true, if_false, Bool.false_eq_true, ↓reduceIte, Nat.reduceEqDiff, Nat.reduceAdd, Nat.reduceSub, Nat.reduceMul, Nat.reduceLeDiff, Nat.reduceLT, ne_eq, not_false_eq_true, not_true_eq_false, Nat.one_ne_zero, Nat.zero_ne_one]
    simp
  rintro J2 hJ2 k hk
  simp only [done_eq, done_eq', fin_val, fin_tup, fin_agg, fin_ro, res_one, res_more, rv_t, rv_c, rv_l, AV.tup.injEq, AV.agg.injEq, AV.ro.injEq, List.cons.injEq, int_eq, bool_eq, Int.toNat_natCast, Int.reduceToNat, Int.toNat_zero, Int.toNat_one, Int.reduceLE, Int.reduceLT, Int.reduceBEq, Int.reduceBNe, beq_self_eq_true, bne_self_eq_false, decide_true, decide_false,  Int.reduceNeg, toNat_pred, toNat_succ, List.length_map, cnd_t, cnd_f, grd_tt, grd_u, grd_tf, grd_ft, grd_ff, g_skip, g_ops, g_seq, g_block, g_exit, g_ret, x_c, x_o, x_l, x_b, g_b, g_nil, r_all, o_nil, g_cond, o_guard, o_call, o_callm, o_callx, o_callv, lk, ef, o_mv, o_pick, o_bin, o_never, o_eqs, o_eqb, o_un, o_conv, o_load, o_loadr, o_idxr, o_loads, o_fld, o_idx, o_idxs, o_len, o_lens, o_ext, o_nilck, o_slc, o_slcs, o_build, o_minmax, o_mkfn, o_alloc, o_box, o_boxs, o_row, o_rowr, o_mk, o_asg, o_app, o_store, o_stores, o_eqnil, hv, eqAV, ev, view_t, view_c, view_nil, view_fn, look_own, look_box, look_junk, look_val, look_nilsl, look_ro, look_roAt, look_agg, look_tup, look_clo, look_alias, look_ref, look_into, rowOf, cellsOf, argv, vbin, vun, bnd, elemOf, putParts, setAt, zav, ASt.rid, ASt.free, AV.kill, AV.isHome, AV.noLoan, AV.cellOK, Value.oneCell', put_at, mk_at, mk_nil, initSt, true_and, and_true, and_self, implies_true, List.map_cons, List.map_nil, List.forall_mem_cons, List.not_mem_nil, false_implies, List.length_cons, List.length_nil, List.getD_cons_zero, List.getD_cons_succ, List.getD_nil, List.drop_succ_cons, List.drop_zero, List.take_succ_cons, List.take_zero, List.set_cons_zero, List.set_cons_succ, List.all_cons, List.all_nil, Bool.and_true, Bool.true_and, Bool.not_true, Bool.not_false, reduceCtorEq, if_true, if_false, Bool.false_eq_true, ↓reduceIte, Nat.reduceEqDiff, Nat.reduceAdd, Nat.reduceSub, Nat.reduceMul, Nat.reduceLeDiff, Nat.reduceLT, ne_eq, not_false_eq_true, not_true_eq_false, Nat.one_ne_zero, Nat.zero_ne_one, r3_0, r3_1, r3_2, r3_3, r3_4, r3_5, r3_6, r3_8, r3_9, r3_10, r3_11, r3_12, r3_13, r3_14, r3_7, r3_15, r3_16, r3_18, r3_19, r3_17, r3_20, p3, l3_1]
  refine condD (fun h2 => ?_) (fun h2 => ?_)
  · have hlt : k < l.length := by omega
    have hln : k < nx.length := by omega
    have hw := i_add1 k (by omega)
    have gL := getD_map (f := Par.av) (d := []) hlt
    have gN := getD_map (f := oneN) (d := []) hln
    have he := hend k hlt
    rw [getD_in hln, trk_in hlt] at he
    rw [he] at gN
    simp only [Par.av] at gL
    simp only [oneN] at gN
    repeat' first | (with_reducible refine condD (fun h => ?_) (fun h => ?_)) | (with_reducible refine condE (fun h => ?_) (fun h => ?_)) | (with_reducible refine condN (fun h => ?_) (fun h => ?_)) | (with_reducible refine condI (fun h => ?_) (fun h => ?_)) | (with_reducible refine condS (fun h => ?_) (fun h => ?_)) | (with_reducible refine guardD (by with_unfolding_all rfl) (fun h => ?_) (fun h => ?_)) | (with_reducible refine guardE (by with_unfolding_all rfl) (fun h => ?_) (fun h => ?_)) | (with_reducible refine guardN (by with_unfolding_all rfl) (fun h => ?_) (fun h => ?_)) | (with_reducible refine guardI (by with_unfolding_all rfl) (fun h => ?_) (fun h => ?_)) | (with_reducible refine guardS (by with_unfolding_all rfl) (fun h => ?_) (fun h => ?_)) | (with_reducible refine And.intro ?_ ?_; omega) | (simp only [done_eq, done_eq', fin_val, fin_tup, fin_agg, fin_ro, res_one, res_more, rv_t, rv_c, rv_l, AV.tup.injEq, AV.agg.injEq, AV.ro.injEq, List.cons.injEq, int_eq, bool_eq, Int.toNat_natCast, Int.reduceToNat, Int.toNat_zero, Int.toNat_one, Int.reduceLE, Int.reduceLT, Int.reduceBEq, Int.reduceBNe, beq_self_eq_true, bne_self_eq_false, decide_true, decide_false,  Int.reduceNeg, toNat_pred, toNat_succ, List.length_map, cnd_t, cnd_f, grd_tt, grd_u, grd_tf, grd_ft, grd_ff, g_skip, g_ops, g_seq, g_block, g_exit, g_ret, x_c, x_o, x_l, x_b, g_b, g_nil, r_all, o_nil, g_cond, o_guard, o_call, o_callm, o_callx, o_callv, lk, ef, o_mv, o_pick, o_bin, o_never, o_eqs, o_eqb, o_un, o_conv, o_load, o_loadr, o_idxr, o_loads, o_fld, o_idx, o_idxs, o_len, o_lens, o_ext, o_nilck, o_slc, o_slcs, o_build, o_minmax, o_mkfn, o_alloc, o_box, o_boxs, o_row, o_rowr, o_mk, o_asg, o_app, o_store, o_stores, o_eqnil, hv, eqAV, ev, view_t, view_c, view_nil, view_fn, look_own, look_box, look_junk, look_val, look_nilsl, look_ro, look_roAt, look_agg, look_tup, look_clo, look_alias, look_ref, look_into, rowOf, cellsOf, argv, vbin, vun, bnd, elemOf, putParts, setAt, zav, ASt.rid, ASt.free, AV.kill, AV.isHome, AV.noLoan, AV.cellOK, Value.oneCell', put_at, mk_at, mk_nil, initSt, true_and, and_true, and_self, implies_true, List.map_cons, List.map_nil, List.forall_mem_cons, List.not_mem_nil, false_implies, List.length_cons, List.length_nil, List.getD_cons_zero, List.getD_cons_succ, List.getD_nil, List.drop_succ_cons, List.drop_zero, List.take_succ_cons, List.take_zero, List.set_cons_zero, List.set_cons_succ, List.all_cons, List.all_nil, Bool.and_true, Bool.true_and, Bool.not_true, Bool.not_false, reduceCtorEq, if_true, if_false, Bool.false_eq_true, ↓reduceIte, Nat.reduceEqDiff, Nat.reduceAdd, Nat.reduceSub, Nat.reduceMul, Nat.reduceLeDiff, Nat.reduceLT, ne_eq, not_false_eq_true, not_true_eq_false, Nat.one_ne_zero, Nat.zero_ne_one, r3_0, r3_1, r3_2, r3_3, r3_4, r3_5, r3_6, r3_8, r3_9, r3_10, r3_11, r3_12, r3_13, r3_14, r3_7, r3_15, r3_16, r3_18, r3_19, r3_17, r3_20, p3, l3_1, gL, gN, hnl, List.length_map]) | (exfalso; omega)
    all_goals exact again hJ2 (k + 1) (weak_mk (by simp only [wk_cons, wk_nil, wk1, vint_eq, vbool_eq, AV.val.injEq, done_eq, done_eq', fin_val, fin_tup, fin_agg, fin_ro, res_one, res_more, rv_t, rv_c, rv_l, AV.tup.injEq, AV.agg.injEq, AV.ro.injEq, List.cons.injEq, int_eq, bool_eq, Int.toNat_natCast, Int.reduceToNat, Int.toNat_zero, Int.toNat_one, Int.reduceLE, Int.reduceLT, Int.reduceBEq, Int.reduceBNe, beq_self_eq_true, bne_self_eq_false, decide_true, decide_false,  Int.reduceNeg, toNat_pred, toNat_succ, List.length_map, cnd_t, cnd_f, grd_tt, grd_u, grd_tf, grd_ft, grd_ff, g_skip, g_ops, g_seq, g_block, g_exit, g_ret, x_c, x_o, x_l, x_b, g_b, g_nil, r_all, o_nil, g_cond, o_guard, o_call, o_callm, o_callx, o_callv, lk, ef, o_mv, o_pick, o_bin, o_never, o_eqs, o_eqb, o_un, o_conv, o_load, o_loadr, o_idxr, o_loads, o_fld, o_idx, o_idxs, o_len, o_lens, o_ext, o_nilck, o_slc, o_slcs, o_build, o_minmax, o_mkfn, o_alloc, o_box, o_boxs, o_row, o_rowr, o_mk, o_asg, o_app, o_store, o_stores, o_eqnil, hv, eqAV, ev, view_t, view_c, view_nil, view_fn, look_own, look_box, look_junk, look_val, look_nilsl, look_ro, look_roAt, look_agg, look_tup, look_clo, look_alias, look_ref, look_into, rowOf, cellsOf, argv, vbin, vun, bnd, elemOf, putParts, setAt, zav, ASt.rid, ASt.free, AV.kill, AV.isHome, AV.noLoan, AV.cellOK, Value.oneCell', put_at, mk_at, mk_nil, initSt, true_and, and_true, and_self, implies_true, List.map_cons, List.map_nil, List.forall_mem_cons, List.not_mem_nil, false_implies, List.length_cons, List.length_nil, List.getD_cons_zero, List.getD_cons_succ, List.getD_nil, List.drop_succ_cons, List.drop_zero, List.take_succ_cons, List.take_zero, List.set_cons_zero, List.set_cons_succ, List.all_cons, List.all_nil, Bool.and_true, Bool.true_and, Bool.not_true, Bool.not_false, reduceCtorEq, if_true, if_false, Bool.false_eq_true, ↓reduceIte, Nat.reduceEqDiff, Nat.reduceAdd, Nat.reduceSub, Nat.reduceMul, Nat.reduceLeDiff, Nat.reduceLT, ne_eq, not_false_eq_true, not_true_eq_false, Nat.one_ne_zero, Nat.zero_ne_one]; exact hw)) (by omega) (by omega)
  · repeat' first | (with_reducible refine condD (fun h => ?_) (fun h => ?_)) | (with_reducible refine condE (fun h => ?_) (fun h => ?_)) | (with_reducible refine condN (fun h => ?_) (fun h => ?_)) | (with_reducible refine condI (fun h => ?_) (fun h => ?_)) | (with_reducible refine condS (fun h => ?_) (fun h => ?_)) | (with_reducible refine guardD (by with_unfolding_all rfl) (fun h => ?_) (fun h => ?_)) | (with_reducible refine guardE (by with_unfolding_all rfl) (fun h => ?_) (fun h => ?_)) | (with_reducible refine guardN (by with_unfolding_all rfl) (fun h => ?_) (fun h => ?_)) | (with_reducible refine guardI (by with_unfolding_all rfl) (fun h => ?_) (fun h => ?_)) | (with_reducible refine guardS (by with_unfolding_all rfl) (fun h => ?_) (fun h => ?_)) | ((refine callG awake3_c ?_)) | (with_reducible refine And.intro ?_ ?_; omega) | (simp only [done_eq, done_eq', fin_val, fin_tup, fin_agg, fin_ro, res_one, res_more, rv_t, rv_c, rv_l, AV.tup.injEq, AV.agg.injEq, AV.ro.injEq, List.cons.injEq, int_eq, bool_eq, Int.toNat_natCast, Int.reduceToNat, Int.toNat_zero, Int.toNat_one, Int.reduceLE, Int.reduceLT, Int.reduceBEq, Int.reduceBNe, beq_self_eq_true, bne_self_eq_false, decide_true, decide_false,  Int.reduceNeg, toNat_pred, toNat_succ, List.length_map, cnd_t, cnd_f, grd_tt, grd_u, grd_tf, grd_ft, grd_ff, g_skip, g_ops, g_seq, g_block, g_exit, g_ret, x_c, x_o, x_l, x_b, g_b, g_nil, r_all, o_nil, g_cond, o_guard, o_call, o_callm, o_callx, o_callv, lk, ef, o_mv, o_pick, o_bin, o_never, o_eqs, o_eqb, o_un, o_conv, o_load, o_loadr, o_idxr, o_loads, o_fld, o_idx, o_idxs, o_len, o_lens, o_ext, o_nilck, o_slc, o_slcs, o_build, o_minmax, o_mkfn, o_alloc, o_box, o_boxs, o_row, o_rowr, o_mk, o_asg, o_app, o_store, o_stores, o_eqnil, hv, eqAV, ev, view_t, view_c, view_nil, view_fn, look_own, look_box, look_junk, look_val, look_nilsl, look_ro, look_roAt, look_agg, look_tup, look_clo, look_alias, look_ref, look_into, rowOf, cellsOf, argv, vbin, vun, bnd, elemOf, putParts, setAt, zav, ASt.rid, ASt.free, AV.kill, AV.isHome, AV.noLoan, AV.cellOK, Value.oneCell', put_at, mk_at, mk_nil, initSt, true_and, and_true, and_self, implies_true, List.map_cons, List.map_nil, List.forall_mem_cons, List.not_mem_nil, false_implies, List.length_cons, List.length_nil, List.getD_cons_zero, List.getD_cons_succ, List.getD_nil, List.drop_succ_cons, List.drop_zero, List.take_succ_cons, List.take_zero, List.set_cons_zero, List.set_cons_succ, List.all_cons, List.all_nil, Bool.and_true, Bool.true_and, Bool.not_true, Bool.not_false, reduceCtorEq, if_true, if_false, Bool.false_eq_true, ↓reduceIte, Nat.reduceEqDiff, Nat.reduceAdd, Nat.reduceSub, Nat.reduceMul, Nat.reduceLeDiff, Nat.reduceLT, ne_eq, not_false_eq_true, not_true_eq_false, Nat.one_ne_zero, Nat.zero_ne_one, r3_0, r3_1, r3_2, r3_3, r3_4, r3_5, r3_6, r3_8, r3_9, r3_10, r3_11, r3_12, r3_13, r3_14, r3_7, r3_15, r3_16, r3_18, r3_19, r3_17, r3_20, p3, l3_1]) | (exfalso; omega)
theorem interall_c : ∀ avs, HasArgs [.one (.row [.int .i64, .row [.int .i64, .int .i64, .int .i64, .int .i64, .bool]]), .one (.int .i64)] avs → CallOK Try.prog 3 avs (.val (.bool true)) := by
  intro avs h
  obtain ⟨v0, r, rfl, h0, h⟩ := args_cons h
  obtain ⟨v1, r, rfl, h1, h⟩ := args_cons h
  obtain rfl := args_nil h
  obtain ⟨n0, rfl, hl0, hb0⟩ := has_row h0 all_par
  obtain ⟨n1, rfl, hb1⟩ := has_int h1
  exact interall_d n0 n1

/-! ### The row -/
open Go.ChangeShapes Go.WideShapes Go.ChangeAt
set_option maxRecDepth 100000 in
theorem interall_lifted (os : Os) (started : os.Started) (H : Type) (enc : TypeId × Value → H) :
    ReturnsInHanded {} Try.checked os 3 .any (Rows.sampleInterleavesAllSpec.pre6 enc Try.prog Try.f3 Rows.sampleInterleavesAllRow.domain false) (Rows.sampleInterleavesAllSpec.post enc Try.prog Try.f3 false true false false) := by
  refine returnsInHanded_of_change (C := Try.checked) own_knob started (by kernel_rfl) Try.func3
    (ChangeSpec.witness6 (enc := enc) (C := Try.checked) false ⟨#[], #[.slice none 0 0, .int .i64 0], []⟩ 8 (by kernel_rfl) (by kernel_rfl) (by kernel_rfl) (by kernel_rfl)) ?_
  intro W base args ds gs before hval hW _ _
  refine law_step rfl (by kernel_rfl) (fun ds h => ?_) ?_ hval hW ?_
  · match ds, h with | [a, b], _ => exact ⟨rfl, rfl, rfl⟩
  · rw [Try.params3]
    intro t ht
    simp only [List.mem_cons, List.not_mem_nil, or_false] at ht
    repeat' (first | (rcases ht with rfl | ht) | subst ht)
    all_goals exact ⟨by kernel_rfl, of_decide_eq_true (by kernel_rfl)⟩
  · rw [Try.params3]
    intro hin
    exact law_dm (ss := [.one (.row [.int .i64, .row [.int .i64, .int .i64, .int .i64, .int .i64, .bool]]), .one (.int .i64)]) (by kernel_rfl) hin interall_c

theorem interall_holds : Rows.SampleInterleavesAllSaid :=
  OpenClaim.holds_of_wide 3 Try.f3 rfl rfl rfl rfl rfl rfl rfl ⟨rfl, rfl, rfl, rfl, rfl⟩ rfl rfl rfl rfl rfl (by kernel_rfl) Try.func3 (by kernel_rfl)
    (of_decide_eq_true (by kernel_rfl)) (by unfold Func.isWrapper; first | (rw [if_pos (by decide +kernel)]; kernel_rfl) | (rw [if_neg (by decide +kernel)]; exact ⟨rfl, rfl⟩))
    (fun os started H enc _ => interall_lifted os started H enc)

end Go.Proofs.Ytkklgckmdnejfaa
